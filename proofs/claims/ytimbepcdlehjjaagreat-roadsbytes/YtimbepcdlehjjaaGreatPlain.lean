/-
  Plain facts on the functions: what they compute, and that the law holds of it.
-/
import Derived.Test.YtimbepcdlehjjaaGreatFns5
set_option maxRecDepth 100000
set_option synthInstance.maxHeartbeats 0
set_option synthInstance.maxSize 100000
set_option linter.unusedVariables false
namespace Go.Abs.Roadsz
open Go Go.Abs
noncomputable def Y9 (p1:(List Lane))(x1:((List Lane)×Int)):Option (Stp ((List Lane)×Int) (List Lane)):=
  cond (decide (x1.2< (p1.length:Int))) ((F0 p1 x1.2).bind fun v1=>(Hu v1).bind fun v2=>(Q4 x1.1 [v2]).bind fun v3=>some (.go (v3,(K2 (x1.2+1))))) (some (.out x1.1))
noncomputable def Bg [Lp](p1:(List Lane)):Option (List Lane):=
  (loop (Y9 p1) ([],0)).bind fun y1=>some y1
noncomputable def Z0 (p1:(List Zone))(x1:((List Zone)×Int)):Option (Stp ((List Zone)×Int) (List Zone)):=
  cond (decide (x1.2< (p1.length:Int))) ((F0 p1 x1.2).bind fun v1=>(Hv v1).bind fun v2=>(Q4 x1.1 [v2]).bind fun v3=>some (.go (v3,(K2 (x1.2+1))))) (some (.out x1.1))
noncomputable def Bh [Lp](p1:(List Zone)):Option (List Zone):=
  (loop (Z0 p1) ([],0)).bind fun y1=>some y1
noncomputable def W1 [Lp](p1:(List Signal))(x1:((List Signal)×Int)):Option (Stp ((List Signal)×Int) (List Signal)):=
  cond (decide (x1.2< (p1.length:Int))) ((F0 p1 x1.2).bind fun v1=>(Eo v1).bind fun v2=>(Q4 x1.1 [v2]).bind fun v3=>some (.go (v3,(K2 (x1.2+1))))) (some (.out x1.1))
noncomputable def X7 [Lp](p1:(List Signal)):Option (List Signal):=
  (loop (W1 p1) ([],0)).bind fun y1=>some y1
noncomputable def Z1 (p1:(List Work))(x1:((List Work)×Int)):Option (Stp ((List Work)×Int) (List Work)):=
  cond (decide (x1.2< (p1.length:Int))) ((F0 p1 x1.2).bind fun v1=>(Kb v1).bind fun v2=>(Q4 x1.1 [v2]).bind fun v3=>some (.go (v3,(K2 (x1.2+1))))) (some (.out x1.1))
noncomputable def Bi [Lp](p1:(List Work)):Option (List Work):=
  (loop (Z1 p1) ([],0)).bind fun y1=>some y1
noncomputable def Xp [Lp](p1:Map):Option Map:=
  (Bg p1.Lanes).bind fun v1=>(Bh p1.Zones).bind fun v2=>(X7 p1.Signals).bind fun v3=>(Bi p1.Works).bind fun v4=>some (Map.mk p1.Version v1 v2 v3 v4)
instance (a)(b)(c)(d):Le (@Qe Ff a b c d) (Qe a b c d):=by unfold Qe;infer_instance
instance:Le (@Pv Ff) (Pv):=by unfold Pv;infer_instance
instance (a):Le (@In Ff a) (In a):=by unfold In;infer_instance
instance curve_root_le (a):Le (@Fh Ff a) (Fh a):=by unfold Fh;infer_instance
instance (a)(b):Le (@X4 Ff a b) (X4 a b):=by unfold X4;infer_instance
instance (a):Le (@Et Ff a) (Et a):=by unfold Et;infer_instance
instance (a)(b)(c):Le (@Bk Ff a b c) (Bk a b c):=by unfold Bk;infer_instance
instance (a)(b):Le (@P8 Ff a b) (P8 a b):=by unfold P8;infer_instance
instance (a):Le (@U3 Ff a) (U3 a):=by unfold U3;infer_instance
instance (a)(b):Le (@O8 Ff a b) (O8 a b):=by unfold O8;infer_instance
instance (a):Le (@S7 Ff a) (S7 a):=by unfold S7;infer_instance
instance (a):Le (@F7 Ff a) (F7 a):=by unfold F7;infer_instance
instance (a):Le (@F1 Ff a) (F1 a):=by unfold F1;infer_instance
instance (a)(b):Le (@R4 Ff a b) (R4 a b):=by unfold R4;infer_instance
instance (a)(b)(c):Le (@E6 Ff a b c) (E6 a b c):=by unfold E6;infer_instance
instance (a)(b):Le (@F6 Ff a b) (F6 a b):=by unfold F6;infer_instance
instance (a)(b):Le (@E7 Ff a b) (E7 a b):=by unfold E7;infer_instance
instance (a)(b):Le (@O1 Ff a b) (O1 a b):=by unfold O1;infer_instance
instance (a):Le (@R2 Ff a) (R2 a):=by unfold R2;infer_instance
instance piecesGo_le (pts:List Spot): ∀(n i:Nat) (s:Int),Le (@Hd Ff pts n i s) (Hd pts n i s)
  |0,i,s=>Le.refl _
  |n+1,i,s=>by
   unfold Hd
   have:=fun i s=>piecesGo_le pts n i s
   infer_instance -- curve_root_le
instance (a):Le (@Rt Ff a) (Rt a):=by unfold Rt;infer_instance
instance (a):Le (@Eu Ff a) (Eu a):=by unfold Eu;infer_instance
instance (a):Le (@Ev Ff a) (Ev a):=by unfold Ev;infer_instance
instance (a)(b):Le (@Z6 Ff a b) (Z6 a b):=by unfold Z6;infer_instance
instance (a)(b)(c):Le (@P9 Ff a b c) (P9 a b c):=by unfold P9;infer_instance
instance (a)(b):Le (@Q0 Ff a b) (Q0 a b):=by unfold Q0;infer_instance
instance (a):Le (@U4 Ff a) (U4 a):=by unfold U4;infer_instance
instance (a)(b):Le (@Q1 Ff a b) (Q1 a b):=by unfold Q1;infer_instance
instance (a):Le (@U5 Ff a) (U5 a):=by unfold U5;infer_instance
instance (a)(b):Le (@R5 Ff a b) (R5 a b):=by unfold R5;infer_instance
instance (a)(b):Le (@N9 Ff a b) (N9 a b):=by unfold N9;infer_instance
instance (a):Le (@W7 Ff a) (W7 a):=by unfold W7;infer_instance
instance (a)(b):Le (@X9 Ff a b) (X9 a b):=by unfold X9;infer_instance
instance (a)(b):Le (@N2 Ff a b) (N2 a b):=by unfold N2;infer_instance
instance (a)(b)(c):Le (@Ef Ff a b c) (Ef a b c):=by unfold Ef;infer_instance
instance (a)(b):Le (@Ey Ff a b) (Ey a b):=by unfold Ey;infer_instance
instance (a)(b)(c):Le (@Ae Ff a b c) (Ae a b c):=by unfold Ae;infer_instance
instance (a)(b):Le (@Dc Ff a b) (Dc a b):=by unfold Dc;infer_instance
instance (a)(b)(c):Le (@Eg Ff a b c) (Eg a b c):=by unfold Eg;infer_instance
instance (a)(b):Le (@Jd Ff a b) (Jd a b):=by unfold Jd;infer_instance
instance (a)(b)(c):Le (@Kp Ff a b c) (Kp a b c):=by unfold Kp;infer_instance
instance (a)(b):Le (@K6 Ff a b) (K6 a b):=by unfold K6;infer_instance
instance (a)(b):Le (@Gp Ff a b) (Gp a b):=by unfold Gp;infer_instance
instance (a)(b)(c)(d):Le (@Eh Ff a b c d) (Eh a b c d):=by unfold Eh;infer_instance
instance (a)(b)(c):Le (@Gq Ff a b c) (Gq a b c):=by unfold Gq;infer_instance
instance (a)(b):Le (@Fw Ff a b) (Fw a b):=by unfold Fw;infer_instance
instance (a):Le (@Kq Ff a) (Kq a):=by unfold Kq;infer_instance
instance (a)(b)(c):Le (@K1 Ff a b c) (K1 a b c):=by unfold K1;infer_instance
instance (a)(b)(c):Le (@J3 Ff a b c) (J3 a b c):=by unfold J3;infer_instance
instance (a)(b)(c):Le (@Gf Ff a b c) (Gf a b c):=by unfold Gf;infer_instance
instance (a)(b)(c):Le (@Y0 Ff a b c) (Y0 a b c):=by unfold Y0;infer_instance
instance (a)(b)(c)(d):Le (@I9 Ff a b c d) (I9 a b c d):=by unfold I9;infer_instance
instance (a)(b)(c):Le (@J8 Ff a b c) (J8 a b c):=by unfold J8;infer_instance
instance (a)(b)(c):Le (@J0 Ff a b c) (J0 a b c):=by unfold J0;infer_instance
instance (a)(b)(c)(d):Le (@Y1 Ff a b c d) (Y1 a b c d):=by unfold Y1;infer_instance
instance (a)(b)(c)(d)(e):Le (@I3 Ff a b c d e) (I3 a b c d e):=by unfold I3;infer_instance
instance (a)(b)(c)(d):Le (@J6 Ff a b c d) (J6 a b c d):=by unfold J6;infer_instance
instance (a)(b)(c)(d):Le (@I4 Ff a b c d) (I4 a b c d):=by unfold I4;infer_instance
instance (a)(b):Le (@Ei Ff a b) (Ei a b):=by unfold Ei;infer_instance
instance (a):Le (@Je Ff a) (Je a):=by unfold Je;infer_instance
instance (a)(b)(c)(d):Le (@Ej Ff a b c d) (Ej a b c d):=by unfold Ej;infer_instance
instance (a)(b):Le (@Ek Ff a b) (Ek a b):=by unfold Ek;infer_instance
instance (a):Le (@Jf Ff a) (Jf a):=by unfold Jf;infer_instance
instance (a)(b)(c):Le (@Dd Ff a b c) (Dd a b c):=by unfold Dd;infer_instance
instance (a)(b):Le (@Cz Ff a b) (Cz a b):=by unfold Cz;infer_instance
instance (a)(b)(c):Le (@Ho Ff a b c) (Ho a b c):=by unfold Ho;infer_instance
instance (a)(b)(c)(d)(e)(f):Le (@P1 Ff a b c d e f) (P1 a b c d e f):=by unfold P1;infer_instance
instance (a)(b)(c)(d)(e):Le (@P2 Ff a b c d e) (P2 a b c d e):=by unfold P2;infer_instance
instance (a)(b)(c):Le (@P3 Ff a b c) (P3 a b c):=by unfold P3;infer_instance
instance (a)(b):Le (@S5 Ff a b) (S5 a b):=by unfold S5;infer_instance
instance (a):Le (@Kr Ff a) (Kr a):=by unfold Kr;infer_instance
instance (a)(b)(c):Le (@Y2 Ff a b c) (Y2 a b c):=by unfold Y2;infer_instance
instance (a)(b)(c)(d):Le (@H5 Ff a b c d) (H5 a b c d):=by unfold H5;infer_instance
instance (a)(b)(c):Le (@I5 Ff a b c) (I5 a b c):=by unfold I5;infer_instance
instance (a)(b)(c):Le (@H6 Ff a b c) (H6 a b c):=by unfold H6;infer_instance
instance (a)(b)(c)(d):Le (@Ax Ff a b c d) (Ax a b c d):=by unfold Ax;infer_instance
instance (a)(b)(c)(d)(e)(f)(g):Le (@O3 Ff a b c d e f g) (O3 a b c d e f g):=by unfold O3;infer_instance
instance (a)(b)(c)(d)(e)(f):Le (@O4 Ff a b c d e f) (O4 a b c d e f):=by unfold O4;infer_instance
instance (a)(b)(c)(d):Le (@O5 Ff a b c d) (O5 a b c d):=by unfold O5;infer_instance
instance (a)(b)(c):Le (@Q6 Ff a b c) (Q6 a b c):=by unfold Q6;infer_instance
instance (a):Le (@Jg Ff a) (Jg a):=by unfold Jg;infer_instance
instance (a):Le (@Pw Ff a) (Pw a):=by unfold Pw;infer_instance
instance (a)(b):Le (@Qm Ff a b) (Qm a b):=by unfold Qm;infer_instance
instance (a)(b):Le (@Jh Ff a b) (Jh a b):=by unfold Jh;infer_instance
instance (a)(b)(c)(d):Le (@Ks Ff a b c d) (Ks a b c d):=by unfold Ks;infer_instance
instance law03_awake_le:Le (@Gg Ff) (Gg):=by unfold Gg;infer_instance
theorem Hj (n:Int): ∃y,Fh n=some (y,y*y==n)∧0≤y∧y≤67108864∧(∀m,0≤m→m<y→m*m<n)∧(y=67108864∨n≤y*y):=by
  have key:=LZ (f:=Jr n) (fun x=>0≤x.1∧x.1≤x.2∧x.2≤67108864∧(∀m,0≤m→m<x.1→m*m<n)∧(x.2=67108864∨n≤x.2*x.2)) (fun x=>(x.2 - x.1).toNat)
    (fun y=>0≤y∧y≤67108864∧(∀m,0≤m→m<y→m*m<n)∧(y=67108864∨n≤y*y)) (by
      rintro ⟨lo,hi⟩ ⟨h1,h2,h3,h4,h5⟩
      dsimp only at h1 h2 h3 h4 h5
      unfold Jr
      dsimp only
      by_cases hlt:lo<hi
      ·have e1:K2 (lo+hi)=lo+hi:=R8 (by omega)
       have e2:K2 ((lo+hi).tdiv 2)=(lo+hi) / 2:=by rw [Int.tdiv_eq_ediv_of_nonneg (by omega)];exact R8 (by omega)
       have hm:lo≤(lo+hi) / 2∧(lo+hi) / 2<hi:=by omega
       generalize hmid:(lo+hi) / 2=mid at*
       have hmm:mid*mid≤67108864*67108864:=RH (by omega) (by omega)
       have hmm0:=Pr mid
       have e3:K2 (mid*mid)=mid*mid:=R8 (by omega)
       have e4:K2 (mid+1)=mid+1:=R8 (by omega)
       simp only [e1,e2,e3,e4,hlt,decide_true,l9]
       by_cases hc:mid*mid<n
       ·simp only [hc,decide_true,l9]
        refine ⟨_,rfl,⟨by omega,by omega,h3,fun m hm0 hm1=> ?_,h5⟩,by dsimp only;omega⟩
        rcases Int.lt_or_le m mid with q|q
        ·have:=Int.mul_le_mul (show m≤mid by omega) (show m≤mid by omega) hm0 (by omega);omega
        ·have:m=mid:=by dsimp only at hm1;omega
         subst this;exact hc
       ·simp only [hc,decide_false,bA]
        exact ⟨_,rfl,⟨h1,by dsimp only;omega,by dsimp only;omega,h4, .inr (by dsimp only;omega)⟩,by dsimp only;omega⟩
      ·simp only [hlt,decide_false,bA]
       obtain rfl:lo=hi:=by omega
       exact ⟨_,rfl,h1,h3,h4,h5⟩) (0,67108864) ⟨by decide,by decide,by decide,fun m h1 h2=>by dsimp only at h2;omega, .inl rfl⟩
  obtain ⟨y,hy,h1,h2,h3,h4⟩:=key
  refine ⟨y,?_,h1,h2,h3,h4⟩
  have hmm:y*y≤67108864*67108864:=RH (by omega) (by omega)
  have hmm0:=Pr y
  unfold Fh
  rw [hy,lA,R8 (by omega)]
/-- The least number whose square is not less. -/
noncomputable def rt (n:Int):Int:=(Hj n).choose
theorem Xq (n:Int):Fh n=some (rt n,rt n*rt n==n):=(Hj n).choose_spec.1
theorem BN (n:Int):0≤rt n:=(Hj n).choose_spec.2.1
theorem gQ (n m:Int)(h1:0≤m)(h2:m<rt n):m*m<n:=(Hj n).choose_spec.2.2.2.1 m h1 h2
theorem gR (n:Int):rt n=67108864∨n≤rt n*rt n:=(Hj n).choose_spec.2.2.2.2
theorem XY {l:Int}(h0:0≤l)(h1:l≤67108864):rt (l*l)=l:=by
  rcases Int.lt_trichotomy (rt (l*l)) l with q|q|q
  ·rcases gR (l*l)with h|h
   ·omega
   ·have h2:=BN (l*l)
    have:=Int.mul_lt_mul' (show rt (l*l)≤l by omega) q h2 (by omega);omega
  ·exact q
  ·have:=gQ (l*l) l h0 q;omega
theorem CY (n:Int)(h0:0≤n)(h1:n<18014398509481984): ∃r,Ip n=some r∧0≤r∧r<134217728∧r*r≤n∧n< (r+1)* (r+1):=by
  have key:=LZ (f:=Js n) (fun x=>0≤x.1∧x.1*x.1≤n∧((∃k:Nat,k≤26∧x.2=2^k∧x.1+2*2^k≤134217728∧n< (x.1+2*2^k)* (x.1+2*2^k))∨(x.2=0∧x.1<134217728∧n< (x.1+1)* (x.1+1)))) (fun x=>x.2.toNat)
    (fun r=>0≤r∧r<134217728∧r*r≤n∧n< (r+1)* (r+1)) (by
      rintro ⟨r,bit⟩ ⟨q1,q2,q3⟩
      dsimp only at q1 q2 q3
      unfold Js
      dsimp only
      rcases q3 with ⟨k,hk,rfl,q4,q5⟩|⟨rfl,q4,q5⟩
      ·have hp:(0:Int)<2^k:=Int.pow_pos (by decide)
       generalize hb:(2:Int)^k=b at*
       have e1:K2 (r+b)=r+b:=R8 (by omega)
       have hmm:(r+b)* (r+b)≤134217728*134217728:=RH (by omega) (by omega)
       have hmm0:=Pr (r+b)
       have e2:K2 ((r+b)* (r+b))=(r+b)* (r+b):=R8 (by omega)
       have e3:K2 (b.tdiv 2)=b / 2:=by rw [Int.tdiv_eq_ediv_of_nonneg (by omega)];exact R8 (by omega)
       have hb0:b>0:=by omega
       simp only [e1,e2,e3,hb0,decide_true,l9]
       have hnext: ∀r',0≤r'→r'*r'≤n→r'+b≤134217728→n< (r'+b)* (r'+b)→(∃j:Nat,j≤26∧b / 2=2^j∧r'+2*2^j≤134217728∧n< (r'+2*2^j)* (r'+2*2^j))∨(b / 2=0∧r'<134217728∧n< (r'+1)* (r'+1)):=by
         intro r' a1 a2 a3 a4
         cases k with
         |zero=>
          have:b=1:=by rw [← hb];rfl
          subst this
          exact .inr ⟨by decide,by omega,a4⟩
         |succ j=>
          have hj:b=2*2^j:=by rw [← hb,Int.pow_succ];omega
          refine .inl ⟨j,by omega,by omega,by omega,by rw [← hj];exact a4⟩
       by_cases hc:(r+b)* (r+b)≤n
       ·simp only [hc,decide_true,l9]
        refine ⟨_,rfl,⟨by dsimp only;omega,hc,hnext (r+b) (by omega) hc (by omega) (by rw [show r+b+b=r+2*b by omega];exact q5)⟩,by dsimp only;omega⟩
       ·simp only [hc,decide_false,bA]
        exact ⟨_,rfl,⟨q1,q2,hnext r q1 q2 (by omega) (by omega)⟩,by dsimp only;omega⟩
      ·simp only [show ¬(0:Int)>0 by decide,decide_false,bA]
       exact ⟨_,rfl,q1,q4,q2,q5⟩) (0,67108864) ⟨by decide,by dsimp only;omega, .inl ⟨26,by decide,by decide,by decide,by dsimp only;omega⟩⟩
  obtain ⟨r,hr,a⟩:=key
  exact ⟨r,by unfold Ip;rw [hr];rfl,a⟩
theorem HA {n:Int}(h0:0≤n)(h1:n≤4503599627370496): ∃r,Ip n=some r∧0≤r∧r<134217728∧(r*r=n↔rt n*rt n=n)∧(r*r=n→r=rt n):=by
  obtain ⟨r,hr,a1,a2,a3,a4⟩:=CY n h0 (by omega)
  have hr26:r≤67108864:=by
    rcases Int.lt_or_le r 67108865 with q|q
    ·omega
    ·have:=Int.mul_le_mul q q (by decide) (by omega);omega
  refine ⟨r,hr,a1,a2,⟨fun h=> ?_,fun h=> ?_⟩,fun h=> ?_⟩
  ·rw [← h,XY a1 hr26]
  ·rcases Int.lt_trichotomy r (rt n)with q|q|q
   ·have:=Int.mul_le_mul (show r+1≤rt n by omega) (show r+1≤rt n by omega) (by omega) (BN n);omega
   ·rw [q];exact h
   ·have h2:=BN n
    have:=Int.mul_lt_mul' (show rt n≤r by omega) q h2 (by omega);omega
  ·rw [← h,XY a1 hr26]
def Ug (p:Spot):Bool:=decide (-16777216≤p.X)&&decide (p.X≤16777216)&&decide (-16777216≤p.Y)&&decide (p.Y≤16777216)
theorem okS_iff {p:Spot}:Ug p=true↔ -16777216≤p.X∧p.X≤16777216∧ -16777216≤p.Y∧p.Y≤16777216:=by simp [Ug,and_assoc]
theorem TO (p:Spot):((decide ((SP false p.X p.Y)< (-16777216)))||(decide ((SP true p.X p.Y)>16777216)))= !Ug p:=by
  rw [cG,cF]
  cases h:Ug p with
  |true=>have:=okS_iff.1 h;simp;omega
  |false=>
   have: ¬(-16777216≤p.X∧p.X≤16777216∧ -16777216≤p.Y∧p.Y≤16777216):=fun q=>by rw [okS_iff.2 q]at h;cases h
   simp;omega
theorem HB (l:List Spot)(hl:l.length≤1000000): ∀(r:List Spot) (i:Nat),l.drop i=r→loop (Fg l) (i:Int)=some (if r.all Ug then .inl ()else .inr false):=by
  intro r
  induction r with
  |nil=>
   intro i hi
   have:=Es hi
   refine K3 ?_
   unfold Fg
   simp only [show ¬(i:Int)<l.length by omega,decide_false,bA,List.all_nil,if_true]
  |cons p r ih=>
   intro i hi
   have hlt:=Bv hi
   have hstep:Fg l (i:Int)=if Ug p then some (.go ((i+1:Nat):Int))else some (.out (.inr false)):=by
     unfold Fg
     simp only [show (i:Int)<l.length by omega,decide_true,l9,Bu hi,lA,TO]
     cases h:Ug p with
     |true=>simp only [bG,bA,if_true];rw [R8 (by omega)];rfl
     |false=>simp
   cases h:Ug p with
   |true=>
    rw [h,bB rfl]at hstep
    rw [Y5 hstep,ih (i+1) (W9 hi)]
    simp [h]
   |false=>
    rw [h]at hstep
    rw [K3 hstep]
    simp [h]
theorem HC (l:List Spot)(hl:l.length≤1000000):In l=some (l.all Ug):=by
  unfold In
  have:=HB l hl l 0 (by simp)
  rw [show ((0:Nat):Int)=0 from rfl]at this
  rw [this]
  cases l.all Ug<;>rfl
theorem FK (p:Spot):Nd p=some (Ug p):=by
  unfold Nd Ug;rfl
def P5 (p q:Spot):CurveVector:=⟨q.X - p.X,q.Y - p.Y⟩
def M0 (v w:CurveVector):Int:=v.x*w.x+v.y*w.y
/-- A vector between valid spots. -/
def UO (v:CurveVector):Prop:= -33554432≤v.x∧v.x≤33554432∧ -33554432≤v.y∧v.y≤33554432
theorem Zu {p q:Spot}(hp:Ug p=true)(hq:Ug q=true):UO (P5 p q):=by
  have:=okS_iff.1 hp;have:=okS_iff.1 hq
  unfold UO P5;dsimp only;omega
theorem Xr {p q:Spot}(hp:Ug p=true)(hq:Ug q=true):Mi p q=some (P5 p q):=by
  have:=okS_iff.1 hp;have:=okS_iff.1 hq
  unfold Mi P5
  rw [R8 (by omega),R8 (by omega)]
theorem PO {v w:CurveVector}(hv:UO v)(hw:UO w): -2251799813685248≤M0 v w∧M0 v w≤2251799813685248∧(-1125899906842624≤v.x*w.x∧v.x*w.x≤1125899906842624)∧ -1125899906842624≤v.y*w.y∧v.y*w.y≤1125899906842624:=by
  obtain ⟨a1,a2,a3,a4⟩:=hv
  obtain ⟨b1,b2,b3,b4⟩:=hw
  have h1:=XC ⟨a1,a2⟩ ⟨b1,b2⟩
  have h2:=XC ⟨a3,a4⟩ ⟨b3,b4⟩
  unfold M0
  omega
theorem Uh {v w:CurveVector}(hv:UO v)(hw:UO w):Aw v w=some (M0 v w):=by
  have h:=PO hv hw
  unfold Aw
  rw [R8 (n:=v.x*w.x) (by omega),R8 (n:=v.y*w.y) (by omega),R8 (by unfold M0 at h;omega)]
  rfl
theorem PP (v:CurveVector):0≤M0 v v:=by have:=Pr v.x;have:=Pr v.y;unfold M0;omega
def vs (v:CurveVector):Spot:=⟨v.x,v.y⟩
theorem Qx {p q:Spot}(hp:Ug p=true)(hq:Ug q=true):Io q p=some (vs (P5 p q)):=by
  have:=okS_iff.1 hp;have:=okS_iff.1 hq
  unfold Io P5 vs
  rw [R8 (by omega),R8 (by omega)]
theorem Ui {v w:CurveVector}(hv:UO v)(hw:UO w):Kt (vs v) (vs w)=some (M0 v w):=by
  have h:=PO hv hw
  unfold Kt vs
  dsimp only
  rw [R8 (n:=v.x*w.x) (by omega),R8 (n:=v.y*w.y) (by omega),R8 (by unfold M0 at h;omega)]
  rfl
/-- The error of a chain of points, from a piece on; the piece ahead of it. -/
noncomputable def MS:Option CurveVector→List Spot→Int
  |last,p::q::r=>
   if rt (M0 (P5 p q) (P5 p q))*rt (M0 (P5 p q) (P5 p q))≠M0 (P5 p q) (P5 p q)then 3
   else if rt (M0 (P5 p q) (P5 p q))<1000∨rt (M0 (P5 p q) (P5 p q))>1048576 then 2
   else match last with
     |some u=>if M0 u (P5 p q)≤0 then 12 else MS (some (P5 p q)) (q::r)
     |none=>MS (some (P5 p q)) (q::r)
  |_,_=>0
theorem Zv (last:Option CurveVector)(p q:Spot)(r:List Spot):MS last (p::q::r)=
    if rt (M0 (P5 p q) (P5 p q))*rt (M0 (P5 p q) (P5 p q))≠M0 (P5 p q) (P5 p q)then 3
    else if rt (M0 (P5 p q) (P5 p q))<1000∨rt (M0 (P5 p q) (P5 p q))>1048576 then 2
    else match last with
      |some u=>if M0 u (P5 p q)≤0 then 12 else MS (some (P5 p q)) (q::r)
      |none=>MS (some (P5 p q)) (q::r):=by
  conv=>lhs;unfold MS
noncomputable def Cn (l:List Spot):Int:=if l.length<2 then 6 else if l.length>16 then 5 else if l.all Ug then MS none l else 2
theorem FL (c:Curve)(hl:c.Pts.length≤1000000)(hok:c.Pts.all Ug=true): ∀(r:List Spot) (p:Spot) (i:Nat) (last:CurveVector),c.Pts.drop i=p::r→UO last→
    loop (X4 c) ((i:Int),last)=some (if MS (if i=0 then none else some last) (p::r)=0 then .inl ()else .inr (MS (if i=0 then none else some last) (p::r))):=by
  intro r
  induction r with
  |nil=>
   intro p i last hi hlast
   have hlt:=Bv hi
   have:=Es (W9 hi)
   refine K3 ?_
   unfold X4
   dsimp only
   rw [R8 (n:=(c.Pts.length:Int) - 1) (by omega)]
   simp only [show ¬(i:Int)< (c.Pts.length:Int) - 1 by omega,decide_false,bA,MS,if_true]
  |cons q r ih=>
   intro p i last hi hlast
   have hlt:=Bv hi
   have hi1:=W9 hi
   have hlt1:=Bv hi1
   have hp:Ug p=true:=lX.1 hok p (List.mem_of_mem_drop (i:=i) (by rw [hi];simp))
   have hq:Ug q=true:=lX.1 hok q (List.mem_of_mem_drop (i:=i) (by rw [hi];simp))
   have hv:=Zu hp hq
   have hg1:F0 c.Pts ((i:Int)+1)=some q:=by have:=Bu hi1;simpa using this
   have hstep:X4 c ((i:Int),last)=
    if rt (M0 (P5 p q) (P5 p q))*rt (M0 (P5 p q) (P5 p q))≠M0 (P5 p q) (P5 p q)then some (.out (.inr 3))
    else if rt (M0 (P5 p q) (P5 p q))<1000∨rt (M0 (P5 p q) (P5 p q))>1048576 then some (.out (.inr 2))
    else if i≠0∧M0 last (P5 p q)≤0 then some (.out (.inr 12))else some (.go (((i+1:Nat):Int),P5 p q)):=by
     unfold X4
     dsimp only
     rw [R8 (n:=(c.Pts.length:Int) - 1) (by omega),R8 (n:=(i:Int)+1) (by omega)]
     simp only [show (i:Int)< (c.Pts.length:Int) - 1 by omega,decide_true,l9,Bu hi,hg1,lA,Xr hp hq,Uh hv hv,Xq]
     by_cases h1:rt (M0 (P5 p q) (P5 p q))*rt (M0 (P5 p q) (P5 p q))=M0 (P5 p q) (P5 p q)
     ·simp only [h1,beq_self_eq_true,bG,bA,ne_eq,not_true_eq_false,if_false]
      by_cases h2:rt (M0 (P5 p q) (P5 p q))<1000∨rt (M0 (P5 p q) (P5 p q))>1048576
      ·rw [bB h2]
       have:(decide (rt (M0 (P5 p q) (P5 p q))<1000)||decide (rt (M0 (P5 p q) (P5 p q))>1048576))=true:=by simpa using h2
       rw [this];rfl
      ·rw [bC h2]
       have:(decide (rt (M0 (P5 p q) (P5 p q))<1000)||decide (rt (M0 (P5 p q) (P5 p q))>1048576))=false:=by simpa using h2
       rw [this]
       simp only [bA]
       by_cases h3:i=0
       ·subst h3
        simp only [Int.natCast_zero,gt_iff_lt,Int.lt_irrefl,decide_false,bA,Bool.false_and,lA,not_true_eq_false,false_and,if_false]
        rfl
       ·have h4:(i:Int)>0:=by omega
        simp only [h4,decide_true,l9,Uh hlast hv,lA,bD,h3,not_false_eq_true,true_and]
        by_cases h5:M0 last (P5 p q)≤0<;>simp [h5]
     ·have:(rt (M0 (P5 p q) (P5 p q))*rt (M0 (P5 p q) (P5 p q))==M0 (P5 p q) (P5 p q))=false:=by simpa using h1
      simp only [this,bH,l9,ne_eq,h1,not_false_eq_true,if_true]
   rw [Zv]
   by_cases h1:rt (M0 (P5 p q) (P5 p q))*rt (M0 (P5 p q) (P5 p q))≠M0 (P5 p q) (P5 p q)
   ·rw [bB h1]at hstep
    rw [K3 hstep,bB h1];rfl
   ·rw [bC h1]at hstep ⊢
    by_cases h2:rt (M0 (P5 p q) (P5 p q))<1000∨rt (M0 (P5 p q) (P5 p q))>1048576
    ·rw [bB h2]at hstep
     rw [K3 hstep,bB h2];rfl
    ·rw [bC h2]at hstep ⊢
     by_cases h3:i=0
     ·subst h3
      rw [bC (by simp)]at hstep
      rw [Y5 hstep,ih q (0+1) (P5 p q) hi1 hv]
      simp
     ·by_cases h5:M0 last (P5 p q)≤0
      ·rw [bB ⟨h3,h5⟩]at hstep
       rw [K3 hstep]
       simp [h3,h5]
      ·rw [bC (fun h=>h5 h.2)]at hstep
       rw [Y5 hstep,ih q (i+1) (P5 p q) hi1 hv]
       simp [h3,h5]
theorem Wf (c:Curve)(hl:c.Pts.length≤1000000):Et c=some (Cn c.Pts):=by
  unfold Et Cn
  by_cases h1:c.Pts.length<2
  ·rw [bB h1,show decide ((c.Pts.length:Int)<2)=true by simp;omega];rfl
  ·rw [bC h1,show decide ((c.Pts.length:Int)<2)=false by simp;omega]
   simp only [bA]
   by_cases h2:c.Pts.length>16
   ·rw [bB h2,show decide ((c.Pts.length:Int)>16)=true by simp;omega];rfl
   ·rw [bC h2,show decide ((c.Pts.length:Int)>16)=false by simp;omega]
    simp only [bA,HC c.Pts hl,lA]
    cases h3:c.Pts.all Ug with
    |false=>rfl
    |true=>
     simp only [bG,bA,if_true]
     cases hp:c.Pts with
     |nil=>rw [hp]at h1;simp at h1
     |cons p r=>
      have:=FL c hl h3 r p 0 ⟨0,0⟩ (by rw [hp];rfl) ⟨by decide,by decide,by decide,by decide⟩
      rw [bB rfl,show ((0:Nat):Int)=0 from rfl]at this
      rw [this]
      by_cases h4:MS none (p::r)=0
      ·rw [bB h4,h4];rfl
      ·rw [bC h4];rfl
theorem TP (v w:CurveVector):M0 v w=M0 w v:=by unfold M0;rw [Int.mul_comm v.x,Int.mul_comm v.y]
theorem CZ (c:Curve)(hl:c.Pts.length≤1000000): ∀(r:List Spot) (i:Nat),c.Pts.drop i=r→loop (Dm c) (i:Int)=some (if r.all Ug then .inl ()else .inr 2):=by
  intro r
  induction r with
  |nil=>
   intro i hi
   have:=Es hi
   refine K3 ?_
   unfold Dm
   simp only [show ¬(i:Int)<c.Pts.length by omega,decide_false,bA,List.all_nil,if_true]
  |cons p r ih=>
   intro i hi
   have hlt:=Bv hi
   have hstep:Dm c (i:Int)=if Ug p then some (.go ((i+1:Nat):Int))else some (.out (.inr 2)):=by
     unfold Dm
     simp only [show (i:Int)<c.Pts.length by omega,decide_true,l9,Bu hi,lA,FK]
     cases h:Ug p with
     |true=>simp only [bG,bA,if_true];rw [R8 (by omega)];rfl
     |false=>simp
   cases h:Ug p with
   |true=>
    rw [h,bB rfl]at hstep
    rw [Y5 hstep,ih (i+1) (W9 hi)]
    simp [h]
   |false=>
    rw [h]at hstep
    rw [K3 hstep]
    simp [h]
theorem XZ {v:CurveVector}(hv:UO v): ∃l,Ip (M0 v v)=some l∧(K2 (l*l) !=M0 v v)= !(rt (M0 v v)*rt (M0 v v)==M0 v v)∧(rt (M0 v v)*rt (M0 v v)=M0 v v→l=rt (M0 v v)):=by
  have hb:=PO hv hv
  obtain ⟨l,h1,h2,h3,h4,h5⟩:=HA (PP v) (by omega)
  have hmm:l*l≤134217728*134217728:=RH (by omega) (by omega)
  have hmm0:=Pr l
  refine ⟨l,h1,?_,fun h=>h5 (h4.2 h)⟩
  rw [R8 (by omega)]
  by_cases h:l*l=M0 v v
  ·simp [h,h4.1 h]
  ·have h': ¬rt (M0 v v)*rt (M0 v v)=M0 v v:=fun q=>h (h4.2 q)
   have e1:(l*l !=M0 v v)=true:=bne_iff_ne.2 h
   have e2:(rt (M0 v v)*rt (M0 v v)==M0 v v)=false:=beq_eq_false_iff_ne.2 h'
   rw [e1,e2];rfl
theorem DA (c:Curve)(hl:c.Pts.length≤1000000)(hok:c.Pts.all Ug=true): ∀(r:List Spot) (p:Spot) (i:Nat) (last:Option CurveVector),c.Pts.drop i=p::r→
    (i=0∧last=none∨∃j a,i=j+1∧c.Pts.drop j=a::p::r∧last=some (P5 a p))→
    loop (Dl c) (i:Int)=some (if MS last (p::r)=0 then .inl ()else .inr (MS last (p::r))):=by
  intro r
  induction r with
  |nil=>
   intro p i last hi hlast
   have hlt:=Bv hi
   have:=Es (W9 hi)
   refine K3 ?_
   unfold Dl
   rw [R8 (n:=(i:Int)+1) (by omega)]
   simp only [show ¬(i:Int)+1< (c.Pts.length:Int) by omega,decide_false,bA,MS,if_true]
  |cons q r ih=>
   intro p i last hi hlast
   have hlt:=Bv hi
   have hi1:=W9 hi
   have hlt1:=Bv hi1
   have hp:Ug p=true:=lX.1 hok p (List.mem_of_mem_drop (i:=i) (by rw [hi];simp))
   have hq:Ug q=true:=lX.1 hok q (List.mem_of_mem_drop (i:=i) (by rw [hi];simp))
   have hv:=Zu hp hq
   have hg1:F0 c.Pts ((i:Int)+1)=some q:=by have:=Bu hi1;simpa using this
   obtain ⟨l,hl1,hl2,hl3⟩:=XZ hv
   have hstep:Dl c (i:Int)=
    if rt (M0 (P5 p q) (P5 p q))*rt (M0 (P5 p q) (P5 p q))≠M0 (P5 p q) (P5 p q)then some (.out (.inr 3))
    else if rt (M0 (P5 p q) (P5 p q))<1000∨rt (M0 (P5 p q) (P5 p q))>1048576 then some (.out (.inr 2))
    else match last with
      |some u=>if M0 u (P5 p q)≤0 then some (.out (.inr 12))else some (.go ((i+1:Nat):Int))
      |none=>some (.go ((i+1:Nat):Int)):=by
     unfold Dl
     rw [R8 (n:=(i:Int)+1) (by omega)]
     simp only [show (i:Int)+1< (c.Pts.length:Int) by omega,decide_true,l9,Bu hi,hg1,lA,Qx hp hq,Ui hv hv,hl1,hl2]
     by_cases h1:rt (M0 (P5 p q) (P5 p q))*rt (M0 (P5 p q) (P5 p q))=M0 (P5 p q) (P5 p q)
     ·simp only [h1,beq_self_eq_true,bG,bA,ne_eq,not_true_eq_false,if_false,hl3 h1]
      by_cases h2:rt (M0 (P5 p q) (P5 p q))<1000∨rt (M0 (P5 p q) (P5 p q))>1048576
      ·rw [bB h2]
       have:(decide (rt (M0 (P5 p q) (P5 p q))<1000)||decide (rt (M0 (P5 p q) (P5 p q))>1048576))=true:=by simpa using h2
       rw [this];rfl
      ·rw [bC h2]
       have:(decide (rt (M0 (P5 p q) (P5 p q))<1000)||decide (rt (M0 (P5 p q) (P5 p q))>1048576))=false:=by simpa using h2
       rw [this]
       simp only [bA]
       rcases hlast with ⟨rfl,rfl⟩|⟨j,a,rfl,hj,rfl⟩
       ·simp only [Int.natCast_zero,gt_iff_lt,Int.lt_irrefl,decide_false,bA,Bool.false_and,lA]
        rfl
       ·have h4:(((j+1:Nat):Int))>0:=by omega
        have ha:Ug a=true:=lX.1 hok a (List.mem_of_mem_drop (i:=j) (by rw [hj];simp))
        have hva:=Zu ha hp
        have hgj:F0 c.Pts (K2 (((j+1:Nat):Int) - 1))=some a:=by
          rw [R8 (by omega),show (((j+1:Nat):Int) - 1)=(j:Int) by omega]
          exact Bu hj
        simp only [h4,decide_true,l9,hgj,lA,Qx ha hp,Ui hv hva,bD]
        rw [TP (P5 p q) (P5 a p)]
        by_cases h5:M0 (P5 a p) (P5 p q)≤0
        ·simp [h5]
        ·simp [h5]
     ·have:(rt (M0 (P5 p q) (P5 p q))*rt (M0 (P5 p q) (P5 p q))==M0 (P5 p q) (P5 p q))=false:=by simpa using h1
      simp only [this,bH,l9,ne_eq,h1,not_false_eq_true,if_true]
   rw [Zv]
   have hrec:=ih q (i+1) (some (P5 p q)) hi1 (.inr ⟨i,p,rfl,hi,rfl⟩)
   by_cases h1:rt (M0 (P5 p q) (P5 p q))*rt (M0 (P5 p q) (P5 p q))≠M0 (P5 p q) (P5 p q)
   ·rw [bB h1]at hstep
    rw [K3 hstep,bB h1];rfl
   ·rw [bC h1]at hstep ⊢
    by_cases h2:rt (M0 (P5 p q) (P5 p q))<1000∨rt (M0 (P5 p q) (P5 p q))>1048576
    ·rw [bB h2]at hstep
     rw [K3 hstep,bB h2];rfl
    ·rw [bC h2]at hstep ⊢
     cases last with
     |none=>rw [Y5 hstep,hrec]
     |some u=>
      dsimp only at hstep ⊢
      by_cases h5:M0 u (P5 p q)≤0
      ·rw [bB h5]at hstep
       rw [K3 hstep];simp [h5]
      ·rw [bC h5]at hstep
       rw [Y5 hstep,hrec];simp [h5]
theorem Wg (c:Curve)(hl:c.Pts.length≤1000000):Ku c=some (Cn c.Pts):=by
  unfold Ku Cn
  by_cases h1:c.Pts.length<2
  ·rw [bB h1,show decide ((c.Pts.length:Int)<2)=true by simp;omega];rfl
  ·rw [bC h1,show decide ((c.Pts.length:Int)<2)=false by simp;omega]
   simp only [bA]
   by_cases h2:c.Pts.length>16
   ·rw [bB h2,show decide ((c.Pts.length:Int)>16)=true by simp;omega];rfl
   ·rw [bC h2,show decide ((c.Pts.length:Int)>16)=false by simp;omega]
    have hg:=CZ c hl c.Pts 0 (by simp)
    rw [show ((0:Nat):Int)=0 from rfl]at hg
    simp only [bA,hg]
    cases h3:c.Pts.all Ug with
    |false=>rfl
    |true=>
     simp only [if_true,thenS]
     cases hp:c.Pts with
     |nil=>rw [hp]at h1;simp at h1
     |cons p r=>
      have:=DA c hl h3 r p 0 none (by rw [hp];rfl) (.inl ⟨rfl,rfl⟩)
      rw [show ((0:Nat):Int)=0 from rfl]at this
      rw [this]
      by_cases h4:MS none (p::r)=0
      ·rw [bB h4,h4]
      ·rw [bC h4]
/-- What a valid chain is. -/
inductive Good:Option CurveVector→List Spot→Prop
  |one (last:Option CurveVector) (p:Spot):Good last [p]
  |cons (last:Option CurveVector) (p q:Spot) (r:List Spot) (h1:rt (M0 (P5 p q) (P5 p q))*rt (M0 (P5 p q) (P5 p q))=M0 (P5 p q) (P5 p q)) (h2:1000≤rt (M0 (P5 p q) (P5 p q))) (h3:rt (M0 (P5 p q) (P5 p q))≤1048576)
     (h4: ∀u,last=some u→0<M0 u (P5 p q)) (h:Good (some (P5 p q)) (q::r)):Good last (p::q::r)
theorem MT: ∀(r:List Spot) (p:Spot) (last:Option CurveVector),MS last (p::r)=0→Good last (p::r):=by
  intro r
  induction r with
  |nil=>intro p last _;exact .one _ _
  |cons q r ih=>
   intro p last h
   rw [Zv]at h
   split at h
   ·cases h
   ·rename_i h1
    split at h
    ·cases h
    ·rename_i h2
     have h1:rt (M0 (P5 p q) (P5 p q))*rt (M0 (P5 p q) (P5 p q))=M0 (P5 p q) (P5 p q):=by simpa using h1
     cases last with
     |none=>exact .cons _ _ _ _ h1 (by omega) (by omega) (fun u hu=>by cases hu) (ih q _ h)
     |some u=>
      dsimp only at h
      split at h
      ·cases h
      ·exact .cons _ _ _ _ h1 (by omega) (by omega) (fun u' hu=>by cases hu;omega) (ih q _ h)
theorem MU {last:Option CurveVector}{l:List Spot}(h:Good last l):MS last l=0:=by
  induction h with
  |one=>rfl
  |cons last p q r h1 h2 h3 h4 h ih=>
   rw [Zv,bC (by simpa using h1),bC (by omega)]
   cases last with
   |none=>exact ih
   |some u=>dsimp only;rw [bC (by have:=h4 u rfl;omega)];exact ih
structure Valid (l:List Spot):Prop where
  two:2≤l.length
  most:l.length≤16
  ok:l.all Ug=true
  good:Good none l
theorem checkM_zero {l:List Spot}:Cn l=0↔Valid l:=by
  unfold Cn
  constructor
  ·intro h
   split at h
   ·cases h
   ·rename_i h1
    split at h
    ·cases h
    ·rename_i h2
     split at h
     ·rename_i h3
      cases l with
      |nil=>simp at h1
      |cons p r=>exact ⟨by omega,by omega,h3,MT r p none h⟩
     ·cases h
  ·rintro ⟨h1,h2,h3,h4⟩
   rw [bC (by omega),bC (by omega),bB h3]
   exact MU h4
/-- The pieces of a chain: the number, the piece. -/
noncomputable def Uj:Nat→Int→List Spot→List (Int×CurvePiece)
  |i,s,p::q::r=>((i:Int),⟨p,P5 p q,rt (M0 (P5 p q) (P5 p q)),s⟩)::Uj (i+1) (K2 (s+rt (M0 (P5 p q) (P5 p q)))) (q::r)
  |_,_,_=> []
theorem Zw (i:Nat)(s:Int)(p q:Spot)(r:List Spot):Uj i s (p::q::r)=((i:Int),⟨p,P5 p q,rt (M0 (P5 p q) (P5 p q)),s⟩)::Uj (i+1) (K2 (s+rt (M0 (P5 p q) (P5 p q)))) (q::r):=by conv=>lhs;unfold Uj
theorem MV (pts:List Spot)(hok:pts.all Ug=true): ∀(r:List Spot) (p:Spot) (i:Nat) (s:Int),pts.drop i=p::r→Hd pts r.length i s=some (Uj i s (p::r)):=by
  intro r
  induction r with
  |nil=>intro p i s _;rfl
  |cons q r ih=>
   intro p i s hi
   have hi1:=W9 hi
   have hp:Ug p=true:=lX.1 hok p (List.mem_of_mem_drop (i:=i) (by rw [hi];simp))
   have hq:Ug q=true:=lX.1 hok q (List.mem_of_mem_drop (i:=i) (by rw [hi];simp))
   have hv:=Zu hp hq
   have h0:pts[i]? =some p:=by have:=congrArg (fun z=>z[0]?) hi;simpa using this
   have h1:pts[i+1]? =some q:=by have:=congrArg (fun z=>z[0]?) hi1;simpa using this
   rw [lJ,Hd,h0,h1]
   simp only [lA,Xr hp hq,Uh hv hv,Xq]
   rw [ih q (i+1) _ hi1,Zw]
   rfl
theorem PQ {pts:List Spot}(h:Valid pts):Rt pts=some (Uj 0 0 pts):=by
  unfold Rt
  have:=h.most
  rw [bB (by omega)]
  cases hp:pts with
  |nil=>have:=h.two;rw [hp]at this;simp at this
  |cons p r=>exact MV (p::r) (by rw [← hp];exact h.ok) r p 0 0 rfl
/-- The lengths. -/
noncomputable def Xe:List Spot→List Int
  |p::q::r=>rt (M0 (P5 p q) (P5 p q))::Xe (q::r)
  |_=> []
theorem Tf (p q:Spot)(r:List Spot):Xe (p::q::r)=rt (M0 (P5 p q) (P5 p q))::Xe (q::r):=by conv=>lhs;unfold Xe
theorem Rv: ∀(r:List Spot) (p:Spot),(Xe (p::r)).length=r.length
  | [],_=>rfl
  |q::r,p=>by rw [Tf,lJ,Rv r q,lJ]
theorem Zx: ∀(r:List Spot) (p:Spot) (i:Nat) (s:Int),(Uj i s (p::r)).map (·.2.l)=Xe (p::r)
  | [],_,_,_=>rfl
  |q::r,p,i,s=>by rw [Zw,Tf,lP,Zx r q]
theorem MW: ∀(L:List (Int×CurvePiece)) (out:List Int),out.length+L.length≤1000000000→loopL Ee (fun x=>x) L out=some (out++L.map (·.2.l)):=by
  intro L
  induction L with
  |nil=>intro out _;simp [loopL]
  |cons a L ih=>
   intro out h
   simp only [lJ]at h
   have:Ee out a=some (.go (out++ [a.2.l])):=by
     unfold Ee
     rw [Dx (by simp;omega)];rfl
   rw [loopL,this]
   dsimp only
   rw [ih _ (by simp;omega)]
   simp
theorem DB (c:Curve)(hl:c.Pts.length≤1000000):Eu c=some (if Cn c.Pts=0 then Xe c.Pts else []):=by
  unfold Eu
  rw [Wf c hl,lA]
  by_cases h:Cn c.Pts=0
  ·rw [bB h,h]
   have hv:=checkM_zero.1 h
   have:=hv.most
   simp only [bne_self_eq_false,bA,PQ hv,lA]
   cases hp:c.Pts with
   |nil=>have:=hv.two;rw [hp]at this;simp at this
   |cons p r=>
    have e:=Zx r p 0 0
    rw [MW _ _ (by
     have:=congrArg List.length e
     rw [lQ,Rv]at this
     rw [this];rw [hp]at hl;simp at hl ⊢;omega)]
    rw [e];rfl
  ·rw [bC h,show (Cn c.Pts !=0)=true from bne_iff_ne.2 h];rfl
theorem Zy (c:Curve)(hl:c.Pts.length≤1000000)(hok:c.Pts.all Ug=true): ∀(r:List Spot) (p:Spot) (i:Nat) (out:List Int) (last:Option CurveVector),c.Pts.drop i=p::r→Good last (p::r)→out.length+r.length≤1000000→
    loop (Ck c) (out,(i:Int))=some (out++Xe (p::r)):=by
  intro r
  induction r with
  |nil=>
   intro p i out last hi _ _
   have hlt:=Bv hi
   have:=Es (W9 hi)
   refine K3 ?_
   unfold Ck
   dsimp only
   rw [R8 (n:=(i:Int)+1) (by omega)]
   simp only [show ¬(i:Int)+1< (c.Pts.length:Int) by omega,decide_false,bA,Xe,lN]
  |cons q r ih=>
   intro p i out last hi hg ho
   have hlt:=Bv hi
   have hi1:=W9 hi
   have hlt1:=Bv hi1
   have hp:Ug p=true:=lX.1 hok p (List.mem_of_mem_drop (i:=i) (by rw [hi];simp))
   have hq:Ug q=true:=lX.1 hok q (List.mem_of_mem_drop (i:=i) (by rw [hi];simp))
   have hv:=Zu hp hq
   have hg1:F0 c.Pts ((i:Int)+1)=some q:=by have:=Bu hi1;simpa using this
   obtain ⟨l,hl1,hl2,hl3⟩:=XZ hv
   cases hg with
   |cons _ _ _ _ h1 h2 h3 h4 hg=>
    have hll:=hl3 h1
    subst hll
    simp only [lJ]at ho
    have hstep:Ck c (out,(i:Int))=some (.go (out++ [rt (M0 (P5 p q) (P5 p q))],((i+1:Nat):Int))):=by
      unfold Ck
      dsimp only
      rw [R8 (n:=(i:Int)+1) (by omega)]
      simp only [show (i:Int)+1< (c.Pts.length:Int) by omega,decide_true,l9,Bu hi,hg1,lA,Qx hp hq,Ui hv hv,hl1]
      rw [Dx (by simp;omega)]
      rfl
    rw [Y5 hstep,ih q (i+1) _ _ hi1 hg (by simp;omega),Tf]
    simp
theorem DC (c:Curve)(hl:c.Pts.length≤1000000):Lq c=some (if Cn c.Pts=0 then Xe c.Pts else []):=by
  unfold Lq
  rw [Wg c hl,lA]
  by_cases h:Cn c.Pts=0
  ·rw [bB h,h]
   have hv:=checkM_zero.1 h
   simp only [bne_self_eq_false,bA]
   cases hp:c.Pts with
   |nil=>have:=hv.two;rw [hp]at this;simp at this
   |cons p r=>
    have:=Zy c hl hv.ok r p 0 [] none (by rw [hp];rfl) (by rw [← hp];exact hv.good) (by rw [hp]at hl;simp at hl ⊢;omega)
    rw [show ((0:Nat):Int)=0 from rfl]at this
    rw [this];rfl
  ·rw [bC h,show (Cn c.Pts !=0)=true from bne_iff_ne.2 h];rfl
/-- A sum, as the programs take it. -/
def Yj:Int→List Int→Int
  |s,[]=>s
  |s,a::l=>Yj (K2 (s+a)) l
theorem Zz (l:List Int)(hl:l.length≤1000000): ∀(r:List Int) (i:Nat) (s:Int),l.drop i=r→loop (Ao l) (s,(i:Int))=some (Yj s r):=by
  intro r
  induction r with
  |nil=>
   intro i s hi
   have:=Es hi
   refine K3 ?_
   unfold Ao
   simp only [show ¬(i:Int)<l.length by omega,decide_false,bA,Yj]
  |cons a r ih=>
   intro i s hi
   have hlt:=Bv hi
   have hstep:Ao l (s,(i:Int))=some (.go (K2 (s+a),((i+1:Nat):Int))):=by
     unfold Ao
     simp only [show (i:Int)<l.length by omega,decide_true,l9,Bu hi,lA]
     rw [R8 (n:=(i:Int)+1) (by omega)];rfl
   rw [Y5 hstep,ih (i+1) _ (W9 hi),Yj]
theorem AA (l:List Int)(hl:l.length≤1000000): ∀(r:List Int) (i:Nat) (s:Int),l.drop i=r→loop (Ap l) (s,(i:Int))=some (Yj s r):=by
  intro r
  induction r with
  |nil=>
   intro i s hi
   have:=Es hi
   refine K3 ?_
   unfold Ap
   simp only [show ¬(i:Int)<l.length by omega,decide_false,bA,Yj]
  |cons a r ih=>
   intro i s hi
   have hlt:=Bv hi
   have hstep:Ap l (s,(i:Int))=some (.go (K2 (s+a),((i+1:Nat):Int))):=by
     unfold Ap
     simp only [show (i:Int)<l.length by omega,decide_true,l9,Bu hi,lA]
     rw [R8 (n:=(i:Int)+1) (by omega)];rfl
   rw [Y5 hstep,ih (i+1) _ (W9 hi),Yj]
noncomputable def Kf (c:Curve):List Int:=if Cn c.Pts=0 then Xe c.Pts else []
theorem cV: ∀l:List Spot,(Xe l).length≤l.length
  | []=>by simp [Xe]
  |p::r=>by rw [Rv];simp
theorem FM (c:Curve):(Kf c).length≤c.Pts.length:=by
  unfold Kf
  split
  ·exact cV _
  ·simp
theorem DD (c:Curve)(hl:c.Pts.length≤1000000):Ev c=some (Yj 0 (Kf c)):=by
  unfold Ev
  rw [DB c hl,lA]
  have:=FM c
  have h:=Zz (Kf c) (by omega) (Kf c) 0 0 (by simp)
  rw [show ((0:Nat):Int)=0 from rfl]at h
  show (loop (Ao (Kf c)) (0,0)).bind _=_
  rw [h];rfl
theorem DE (c:Curve)(hl:c.Pts.length≤1000000):Gr c=some (Yj 0 (Kf c)):=by
  unfold Gr
  rw [DC c hl,lA]
  have:=FM c
  have h:=AA (Kf c) (by omega) (Kf c) 0 0 (by simp)
  rw [show ((0:Nat):Int)=0 from rfl]at h
  show (loop (Ap (Kf c)) (0,0)).bind _=_
  rw [h];rfl
/-- A quarter turn, so many times. -/
def TQ:Nat→CurveVector→CurveVector
  |0,v=>v
  |n+1,v=>TQ n ⟨-v.y,v.x⟩
theorem JY: ∀(n:Nat) (v w:CurveVector),M0 (TQ n v) (TQ n w)=M0 v w
  |0,_,_=>rfl
  |n+1,v,w=>by rw [TQ,TQ,JY n];unfold M0;grind
/-- A piece's vector, made of numbers: in one quadrant. -/
def gS (n:Nat)(v:CurveVector):Prop:= ∃x y L:Int,v=TQ n ⟨x,y⟩∧0<x∧0≤y∧x*x+y*y=L*L∧1000≤L∧L≤3029∧x≤L∧y≤L
inductive Ch (Q:CurveVector→Prop):List Spot→Prop
  |one (p:Spot):Ch Q [p]
  |cons (p q:Spot) (r:List Spot) (h:Q (P5 p q)) (hr:Ch Q (q::r)):Ch Q (p::q::r)
theorem FN {n:Nat}: ∀(r:List Spot) (p:Spot) (last:Option CurveVector),Ch (gS n) (p::r)→(∀u,last=some u→gS n u)→Good last (p::r)
  | [],p,last,_,_=> .one _ _
  |q::r,p,last,hc,hl=>by
   cases hc with
   |cons _ _ _ h1 h2=>
    have hq:=h1
    obtain ⟨x,y,L,hv,hx,hy,hsq,hL1,hL2,hxL,hyL⟩:=h1
    have hd:M0 (P5 p q) (P5 p q)=L*L:=by rw [hv,JY];unfold M0;exact hsq
    have hrt:rt (M0 (P5 p q) (P5 p q))=L:=by rw [hd];exact XY (by omega) (by omega)
    refine .cons _ _ _ _ (by rw [hrt,hd]) (by rw [hrt];exact hL1) (by rw [hrt];omega) (fun u hu=> ?_) (FN r q _ h2 (fun u hu=>by cases hu;exact hq))
    obtain ⟨x',y',L',hv',hx',hy',_⟩:=hl u hu
    rw [hv,hv',JY]
    unfold M0
    have:=Int.mul_pos hx' hx
    have:=bU hy' hy
    dsimp only
    omega
/-- What the curves made of numbers are like. -/
structure Made (l:List Spot):Prop where
  two:2≤l.length
  six:l.length≤6
  ch: ∃n,Ch (gS n) l
  bd: ∀p∈l, -50000≤p.X∧p.X≤50000∧ -50000≤p.Y∧p.Y≤50000
theorem Made.valid {l:List Spot}(h:Made l):Valid l:=by
  obtain ⟨n,hc⟩:=h.ch
  have:=h.two;have:=h.six
  refine ⟨h.two,by omega,lX.2 fun p hp=>okS_iff.2 (by have:=h.bd p hp;omega),?_⟩
  match l,h,hc with
  |p::r,_,hc=>exact FN r p none hc (fun u hu=>by cases hu)
  | [],h,_=>exact absurd h.two (by simp)
/-! ### Loops that look for the first error -/
def M2 {α β:Type}(g:Nat→α→Option β):Nat→List α→Option β
  |_,[]=>none
  |i,a::r=>match g i a with
   |some e=>some e
   |none=>M2 g (i+1) r
def PS {β:Type}:Option β→Sum Unit β
  |some e=> .inr e
  |none=> .inl ()
theorem Hy {α β:Type}(l:List α)(F:Int→Option (Stp Int (Sum Unit β)))(g:Nat→α→Option β)(hF: ∀(i:Nat) a,l[i]? =some a→F (i:Int)=some (match g i a with|some e=> .out (.inr e)|none=> .go ((i+1:Nat):Int)))(h0:F (l.length:Int)=some (.out (.inl ()))):
    loop F 0=some (PS (M2 g 0 l)):=by
  have key: ∀(r:List α) (i:Nat),l.drop i=r→i≤l.length→loop F (i:Int)=some (PS (M2 g i r)):=by
    intro r
    induction r with
    |nil=>
     intro i hi hil
     have:i=l.length:=by have:=List.drop_eq_nil_iff.1 hi;omega
     subst this
     exact K3 h0
    |cons a r ih=>
     intro i hi hil
     have hlt:i<l.length:=by
       rcases Nat.lt_or_ge i l.length with q|q
       ·exact q
       ·rw [List.drop_eq_nil_of_le q]at hi;cases hi
     have ha:l[i]? =some a:=by have:=congrArg (fun z=>z[0]?) hi;simpa using this
     have hr:l.drop (i+1)=r:=by have:=congrArg (fun z=>z.drop 1) hi;simpa using this
     have hs:=hF i a ha
     unfold M2
     cases hg:g i a with
     |some e=>rw [hg]at hs;exact K3 hs
     |none=>rw [hg]at hs;rw [Y5 hs];exact ih (i+1) hr (by omega)
  have:=key l 0 rfl (by omega)
  exact this
theorem firstE_none {α β:Type}{g:Nat→α→Option β}: ∀{l:List α} {i:Nat},M2 g i l=none↔∀(j:Nat) a,l[j]? =some a→g (i+j) a=none
  | [],i=>by simp [M2]
  |a::r,i=>by
   unfold M2
   cases h:g i a with
   |some e=>
    constructor
    ·intro h';cases h'
    ·intro h';have:=h' 0 a rfl;rw [Nat.add_zero,h]at this;cases this
   |none=>
    dsimp only
    rw [firstE_none (l:=r)]
    constructor
    ·intro h' j b hj
     cases j with
     |zero=>cases hj;exact h
     |succ j=>have:=h' j b hj;rwa [show i+1+j=i+ (j+1) by omega]at this
    ·intro h' j b hj
     have:=h' (j+1) b hj
     rwa [show i+ (j+1)=i+1+j by omega]at this
/-! ### Numbers -/
def Wv (n a b:Int):Bool:=decide (a≤n)&&decide (n≤b)
theorem Px (n a b:Int):V7 n a b=some (Wv n a b):=rfl
theorem Qy (n a b:Int):Cu n a b=some (Wv n a b):=rfl
def Qz (kind:Int):Int×Int×Int:=if kind=1 then (2000,30,90)else if kind=2 then (1000,20,60)else if kind=3 then (300,100,300)else (0,0,0)
theorem IJ (k:Int):Jc k=some (Qz k):=by
  unfold Jc Qz
  by_cases h:k<0∨k≥4
  ·rw [show ((decide (k<0))||(decide (k≥4)))=true by simpa using h,l9,bC (by omega),bC (by omega),bC (by omega)]
  ·rw [show ((decide (k<0))||(decide (k≥4)))=false by rw [bJ];simpa using h,bA]
   obtain ⟨h1,h2⟩:=not_or.1 h
   rcases (show k=0∨k=1∨k=2∨k=3 by omega)with rfl|rfl|rfl|rfl<;>rfl
theorem FO (k:Int):Ji k=some (Qz k):=by
  unfold Ji Qz
  by_cases h1:k=1
  ·subst h1;rfl
  ·by_cases h2:k=2
   ·subst h2;rfl
   ·by_cases h3:k=3
    ·subst h3;rfl
    ·rw [bC h1,bC h2,bC h3]
     rw [show (k==1)=false by simpa using h1,show (k==2)=false by simpa using h2,show (k==3)=false by simpa using h3];rfl
theorem PT {n:Int}(h: -9223372036854775808≤n∧n≤9223372036854775807):K2 n=n:=Go.IntWalk.i64_in n h
theorem D5 {α:Type}{l:List α}{i:Nat}{a:α}(h:l[i]? =some a):F0 l (i:Int)=some a:=by
  unfold F0;rw [bB (by omega),bO];exact h
theorem F5 {α:Type}{l:List α}{i:Nat}{a:α}(h:l[i]? =some a):i<l.length:=(lH.1 h).1
theorem DK {α:Type}(c:Bool)(a b:α):cond c (some a) (some b)=some (cond c a b):=by cases c<;>rfl
def Cr (high:Int):Int→List Int→Bool
  |_,[]=>true
  |low,n::r=>decide (low≤n)&&decide (n<high)&&Cr high (n+1) r
theorem BO (l:List Int)(low high:Int)(hl:l.length≤1000000)(hh:high≤1000000000)(h0:0≤low):Bk l low high=some (Cr high low l):=by
  have key: ∀(r:List Int) (i:Nat) (lo:Int),0≤lo→l.drop i=r→i≤l.length→loop (Ca l high) (lo,(i:Int))=some (if Cr high lo r then .inl ()else .inr false):=by
    intro r
    induction r with
    |nil=>
     intro i lo _ hi hil
     have:=Es hi
     refine K3 ?_
     unfold Ca
     dsimp only
     rw [show decide ((i:Int)< (l.length:Int))=false from l7 (by omega)];rfl
    |cons n r ih=>
     intro i lo hlo hi hil
     have hlt:=Bv hi
     have hs:Ca l high (lo,(i:Int))=some (if decide (lo≤n)&&decide (n<high)then .go (n+1,((i+1:Nat):Int))else .out (.inr false)):=by
       unfold Ca
       dsimp only
       rw [show decide ((i:Int)< (l.length:Int))=true from l6 (by omega),Bu hi,l9,lA,PT (n:=(i:Int)+1) (by omega)]
       by_cases q:lo≤n∧n<high
       ·rw [show ((decide (n<lo))||(decide (n≥high)))=false by rw [bJ];simp;omega,bA,PT (n:=n+1) (by omega),bB (by simpa using q)];rfl
       ·rw [show ((decide (n<lo))||(decide (n≥high)))=true by simp;omega,l9,bC (by simpa using q)]
     unfold Cr
     cases q:(decide (lo≤n)&&decide (n<high))
     ·rw [q]at hs;rw [K3 hs];rfl
     ·rw [q]at hs
      simp only [bE,l8]at q
      rw [Y5 hs,ih (i+1) (n+1) (by omega) (W9 hi) (by omega)];rfl
  unfold Bk
  have:=key l 0 low h0 rfl (by omega)
  rw [show ((0:Nat):Int)=0 from rfl]at this
  rw [this]
  cases Cr high low l<;>rfl
theorem Yk (l:List Int)(low high:Int)(hl:l.length≤1000000):Fj l low high=some (Cr high low l):=by
  have key: ∀(r:List Int) (i:Nat) (lo:Int),low≤lo→(i=0→lo=low)→(0<i→l[i - 1]? =some (lo - 1))→l.drop i=r→i≤l.length→loop (Bb l low high) (i:Int)=some (if Cr high lo r then .inl ()else .inr false):=by
    intro r
    induction r with
    |nil=>
     intro i lo _ _ _ hi hil
     have:=Es hi
     refine K3 ?_
     unfold Bb
     rw [show decide ((i:Int)< (l.length:Int))=false from l7 (by omega)];rfl
    |cons n r ih=>
     intro i lo hlo h0 h1 hi hil
     have hlt:=Bv hi
     have hn:l[i]? =some n:=by have:=congrArg (fun z=>z[0]?) hi;simpa using this
     have hs:Bb l low high (i:Int)=some (if decide (lo≤n)&&decide (n<high)then .go ((i+1:Nat):Int)else .out (.inr false)):=by
       unfold Bb
       rw [show decide ((i:Int)< (l.length:Int))=true from l6 (by omega),Bu hi,l9,lA,DK,lA,DK,lA,PT (n:=(i:Int)+1) (by omega)]
       by_cases q1:n<low
       ·rw [l6 q1,bC (by simp;omega)];rfl
       ·rw [l7 q1]
        simp only [bH,l9,bI]
        by_cases q2:n≥high
        ·rw [l6 q2,bC (by simp;omega)];rfl
        ·rw [l7 q2]
         simp only [bH,bD,bI]
         by_cases q3:(i:Int)>0
         ·have e:F0 l (K2 ((i:Int) - 1))=some (lo - 1):=by
            rw [PT (n:=(i:Int) - 1) (by omega),show (i:Int) - 1=((i - 1:Nat):Int) by omega]
            exact D5 (h1 (by omega))
          rw [l6 q3,l9,l9,e,lA,bD]
          by_cases q4:n≤lo - 1
          ·rw [l6 q4,bC (by simp;omega)];rfl
          ·rw [l7 q4,bB (by simp;omega)];rfl
         ·have:lo=low:=h0 (by omega)
          rw [l7 q3,bA,lA,Bool.false_and,bB (by simp;omega)];rfl
     unfold Cr
     cases q:(decide (lo≤n)&&decide (n<high))
     ·rw [q]at hs;rw [K3 hs];rfl
     ·rw [q]at hs
      simp only [bE,l8]at q
      rw [Y5 hs,ih (i+1) (n+1) (by omega) (fun z=>by omega) (fun _=>by rw [Nat.add_sub_cancel,hn];congr 1;omega) (W9 hi) (by omega)];rfl
  unfold Fj
  have:=key l 0 low (Int.le_refl _) (fun _=>rfl) (fun z=>by omega) rfl (by omega)
  rw [show ((0:Nat):Int)=0 from rfl]at this
  rw [this]
  cases Cr high low l<;>rfl
noncomputable def YA (c:Curve):Int:=Yj 0 (Kf c)
theorem cW {m:Map}{i:Nat}{l:Lane}(h:m.Lanes[i]? =some l)(hl:l.Curve_.Pts.length≤1000000):Z6 m (i:Int)=some (YA l.Curve_):=by
  unfold Z6
  rw [D5 h,lA,DD _ hl];rfl
/-- The lists of a map are of bearable lengths. -/
structure Bear (m:Map):Prop where
  lanes:m.Lanes.length≤1000000
  pts: ∀l∈m.Lanes,l.Curve_.Pts.length≤1000000∧l.Next.length≤1000000
noncomputable def laneE (n:Nat)(i:Nat)(l:Lane):Option Int:=
  if (Qz l.Kind).1=0 then some 4
  else if Cn l.Curve_.Pts≠0 then some (Cn l.Curve_.Pts)
  else if (Wv l.Half 200 4000&&Wv l.Limit 1 (Qz l.Kind).1)=false then some 2
  else if 3<l.Next.length then some 8
  else if Cr n (i+1) l.Next=false then some 11 else none
theorem YB {m:Map}(B:Bear m):U3 ⟨m⟩=some ((M2 (laneE m.Lanes.length) 0 m.Lanes).getD 0):=by
  have h:=Hy m.Lanes (P8 ⟨m⟩) (laneE m.Lanes.length) (fun i l hl=>by
    have hi:=F5 hl
    have hb:=B.lanes
    obtain ⟨p1,p2⟩:=B.pts l (lF hl)
    unfold P8 laneE
    dsimp only
    rw [show decide ((i:Int)< (m.Lanes.length:Int))=true from l6 (by omega),D5 hl,l9,lA,IJ,lA,Wf _ p1,lA,Px,Px,lA,DK,lA,PT (n:=(i:Int)+1) (by omega),BO _ _ _ p2 (by omega) (by omega),lA]
    by_cases h1:(Qz l.Kind).1=0
    ·rw [bB h1,show ((Qz l.Kind).1==0)=true by simpa using h1];rfl
    ·rw [bC h1,show ((Qz l.Kind).1==0)=false by simpa using h1,bA]
     by_cases h2:Cn l.Curve_.Pts≠0
     ·rw [bB h2,show (Cn l.Curve_.Pts !=0)=true by simpa using h2];rfl
     ·rw [bC h2,show (Cn l.Curve_.Pts !=0)=false by simpa using h2,bA]
      cases Wv l.Half 200 4000
      ·rfl
      ·cases Wv l.Limit 1 (Qz l.Kind).1
       ·rfl
       ·simp only [bG,bH,l9,bA,bI,Bool.and_self]
        rw [bC (by decide)]
        by_cases h3:3<l.Next.length
        ·rw [bB h3,show decide ((l.Next.length:Int)>3)=true from l6 (by omega)];rfl
        ·rw [bC h3,show decide ((l.Next.length:Int)>3)=false from l7 (by omega),bA]
         cases Cr (m.Lanes.length:Int) ((i:Int)+1) l.Next<;>rfl) (by
    unfold P8
    dsimp only
    rw [show decide ((m.Lanes.length:Int)< (m.Lanes.length:Int))=false from l7 (by omega)];rfl)
  unfold U3
  rw [h]
  cases M2 (laneE m.Lanes.length) 0 m.Lanes<;>rfl
theorem YC (k:Int):((decide (k<1))||(decide (k>3)))=decide ((Qz k).1=0):=by
  unfold Qz
  by_cases h1:k=1
  ·subst h1;rfl
  ·by_cases h2:k=2
   ·subst h2;rfl
   ·by_cases h3:k=3
    ·subst h3;rfl
    ·rw [bC h1,bC h2,bC h3]
     simp only [decide_true,bF,l8]
     omega
theorem YD {m:Map}(B:Bear m){i:Nat}{l:Lane}(hl:m.Lanes[i]? =some l):He m (i:Int)=some ((laneE m.Lanes.length i l).getD 0):=by
  have hi:=F5 hl
  have hb:=B.lanes
  obtain ⟨p1,p2⟩:=B.pts l (lF hl)
  unfold He laneE
  rw [D5 hl,lA,YC,Wg _ p1,lA,FO,lA,Qy,Qy,lA,DK,lA,PT (n:=(i:Int)+1) (by omega),Yk _ _ _ p2,lA]
  by_cases h1:(Qz l.Kind).1=0
  ·rw [bB h1,l6 h1];rfl
  ·rw [bC h1,l7 h1,bA]
   by_cases h2:Cn l.Curve_.Pts≠0
   ·rw [bB h2,show (Cn l.Curve_.Pts !=0)=true by simpa using h2];rfl
   ·rw [bC h2,show (Cn l.Curve_.Pts !=0)=false by simpa using h2,bA]
    cases Wv l.Half 200 4000
    ·rfl
    ·cases Wv l.Limit 1 (Qz l.Kind).1
     ·rfl
     ·simp only [bG,bH,l9,bA,bI,Bool.and_self]
      rw [bC (by decide)]
      by_cases h3:3<l.Next.length
      ·rw [bB h3,show decide ((l.Next.length:Int)>3)=true from l6 (by omega)];rfl
      ·rw [bC h3,show decide ((l.Next.length:Int)>3)=false from l7 (by omega),bA]
       cases Cr (m.Lanes.length:Int) ((i:Int)+1) l.Next<;>rfl
theorem FP {n i:Nat}{l:Lane}{e:Int}(h:laneE n i l=some e):e≠0:=by
  unfold laneE at h
  split at h
  ·cases h;decide
  ·split at h
   ·rename_i h2;cases h;exact h2
   ·split at h
    ·cases h;decide
    ·split at h
     ·cases h;decide
     ·split at h
      ·cases h;decide
      ·cases h
theorem MX {m:Map}(B:Bear m):loop (Dn m) 0=some (PS (M2 (laneE m.Lanes.length) 0 m.Lanes)):=
  Hy m.Lanes (Dn m) (laneE m.Lanes.length) (fun i l hl=>by
   have hi:=F5 hl
   have hb:=B.lanes
   unfold Dn
   rw [show decide ((i:Int)< (m.Lanes.length:Int))=true from l6 (by omega),YD B hl,l9,lA,PT (n:=(i:Int)+1) (by omega)]
   cases h:laneE m.Lanes.length i l with
   |none=>rfl
   |some e=>
    rw [Option.getD_some,show (e !=0)=true by simpa using FP h];rfl) (by
   unfold Dn
   rw [show decide ((m.Lanes.length:Int)< (m.Lanes.length:Int))=false from l7 (by omega)];rfl)
theorem Kz {high:Int}: ∀{l:List Int} {low:Int},Cr high low l=true→∀k∈l,low≤k∧k<high
  | [],_,_,k,hk=>by cases hk
  |n::r,low,h,k,hk=>by
   unfold Cr at h
   simp only [bE,l8]at h
   rcases lS.1 hk with rfl|hk
   ·exact h.1
   ·have:=Kz h.2 k hk
    omega
/-- What a lane is that has no error of its own. -/
structure LaneOK (n i:Nat)(l:Lane):Prop where
  kind:(Qz l.Kind).1≠0
  curve:Cn l.Curve_.Pts=0
  half:Wv l.Half 200 4000=true
  limit:Wv l.Limit 1 (Qz l.Kind).1=true
  few:l.Next.length≤3
  next:Cr n (i+1) l.Next=true
theorem PU {n i:Nat}{l:Lane}(h:laneE n i l=none):LaneOK n i l:=by
  unfold laneE at h
  split at h
  ·cases h
  ·rename_i h1
   split at h
   ·cases h
   ·rename_i h2
    split at h
    ·cases h
    ·rename_i h3
     split at h
     ·cases h
     ·rename_i h4
      split at h
      ·cases h
      ·rename_i h5
       simp only [Bool.not_eq_false,bE]at h3
       exact ⟨h1,Decidable.not_not.1 h2,h3.1,h3.2,by omega,by simpa using h5⟩
theorem Wh {m:Map}(h:M2 (laneE m.Lanes.length) 0 m.Lanes=none){i:Nat}{l:Lane}(hl:m.Lanes[i]? =some l):LaneOK m.Lanes.length i l:=by
  have:=firstE_none.1 h i l hl
  rw [bS]at this
  exact PU this
theorem BP {l:List Spot}(h:Cn l=0):2≤l.length:=by
  unfold Cn at h
  split at h
  ·cases h
  ·omega
def Xs (l:List Spot):Spot:=l.headD ⟨0,0⟩
def Uv (l:List Spot):Spot:=l.getLastD ⟨0,0⟩
theorem IK {l:List Spot}(h:2≤l.length):F0 l 0=some (Xs l):=by
  cases l with
  |nil=>simp at h
  |cons a r=>rfl
theorem IL {l:List Spot}(h:2≤l.length)(hl:l.length≤1000000):F0 l (K2 ((l.length:Int) - 1))=some (Uv l):=by
  rw [PT (by omega),show (l.length:Int) - 1=((l.length - 1:Nat):Int) by omega]
  refine D5 ?_
  unfold Uv
  rw [List.getLastD_eq_getLast?,List.getLast?_eq_getElem?]
  rw [lG (by omega)];rfl
def MY (a b:Spot):Bool:=a.X==b.X&& (a.Y==b.Y&&true)
def Yl (m:Map)(l:Lane)(_:Nat)(k:Int):Option Int:=
  match m.Lanes[k.toNat]? with
  |some n=>if n.Kind≠l.Kind then some 4 else if MY (Xs n.Curve_.Pts) (Uv l.Curve_.Pts)=false then some 3 else none
  |none=>none
def Mb (m:Map)(_:Nat)(l:Lane):Option Int:=M2 (Yl m l) 0 l.Next
theorem FQ {m:Map}(B:Bear m)(H:M2 (laneE m.Lanes.length) 0 m.Lanes=none){i:Nat}{l:Lane}(hl:m.Lanes[i]? =some l){j:Nat}{k:Int}(hk:l.Next[j]? =some k):
    ∃n,F0 m.Lanes k=some n∧m.Lanes[k.toNat]? =some n∧2≤n.Curve_.Pts.length∧n.Curve_.Pts.length≤1000000:=by
  have L:=Wh H hl
  have hb:=Kz L.next k (lF hk)
  have hlt:k.toNat<m.Lanes.length:=by omega
  refine ⟨m.Lanes[k.toNat],?_,lG hlt,BP (Wh H (lG hlt)).curve,(B.pts _ (List.getElem_mem hlt)).1⟩
  unfold F0
  rw [bB (by omega),lG hlt]
theorem TR {m:Map}{l:Lane}{j:Nat}{k e:Int}(h:Yl m l j k=some e):e≠0:=by
  unfold Yl at h
  split at h
  ·split at h
   ·cases h;decide
   ·split at h
    ·cases h;decide
    ·cases h
  ·cases h
theorem IM {m:Map}(B:Bear m)(H:M2 (laneE m.Lanes.length) 0 m.Lanes=none){i:Nat}{l:Lane}(hl:m.Lanes[i]? =some l):
    loop (X0 ⟨m⟩ l (Uv l.Curve_.Pts)) 0=some (PS (Mb m i l))∧loop (Bc m l) 0=some (PS (Mb m i l)):=by
  have L:=Wh H hl
  obtain ⟨p1,p2⟩:=B.pts l (lF hl)
  constructor
  ·refine Hy l.Next _ (Yl m l) (fun j k hk=> ?_) ?_
   ·have hj:=F5 hk
    obtain ⟨n,g1,g2,g3,g4⟩:=FQ B H hl hk
    unfold X0 Yl
    dsimp only
    rw [show decide ((j:Int)< (l.Next.length:Int))=true from l6 (by omega),D5 hk,l9,lA,g1,lA,lA,IK g3,lA,PT (n:=(j:Int)+1) (by omega),g2]
    dsimp only
    rw [show ((Xs n.Curve_.Pts).X==(Uv l.Curve_.Pts).X&& ((Xs n.Curve_.Pts).Y==(Uv l.Curve_.Pts).Y&&true))=MY (Xs n.Curve_.Pts) (Uv l.Curve_.Pts) from rfl]
    by_cases h1:n.Kind≠l.Kind
    ·rw [bB h1,show (n.Kind !=l.Kind)=true by simpa using h1];rfl
    ·rw [bC h1,show (n.Kind !=l.Kind)=false by simpa using h1]
     cases MY (Xs n.Curve_.Pts) (Uv l.Curve_.Pts)<;>rfl
   ·unfold X0
    rw [show decide ((l.Next.length:Int)< (l.Next.length:Int))=false from l7 (by omega)];rfl
  ·refine Hy l.Next _ (Yl m l) (fun j k hk=> ?_) ?_
   ·have hj:=F5 hk
    obtain ⟨n,g1,g2,g3,g4⟩:=FQ B H hl hk
    unfold Bc Yl
    rw [show decide ((j:Int)< (l.Next.length:Int))=true from l6 (by omega),D5 hk,l9,lA,g1,lA,IK g3,lA,IL (BP L.curve) p1,lA,PT (n:=(j:Int)+1) (by omega),g2]
    dsimp only
    rw [show ((Xs n.Curve_.Pts).X==(Uv l.Curve_.Pts).X&& ((Xs n.Curve_.Pts).Y==(Uv l.Curve_.Pts).Y&&true))=MY (Xs n.Curve_.Pts) (Uv l.Curve_.Pts) from rfl]
    by_cases h1:n.Kind≠l.Kind
    ·rw [bB h1,show (n.Kind !=l.Kind)=true by simpa using h1];rfl
    ·rw [bC h1,show (n.Kind !=l.Kind)=false by simpa using h1]
     cases MY (Xs n.Curve_.Pts) (Uv l.Curve_.Pts)<;>rfl
   ·unfold Bc
    rw [show decide ((l.Next.length:Int)< (l.Next.length:Int))=false from l7 (by omega)];rfl
theorem IN {m:Map}(B:Bear m)(H:M2 (laneE m.Lanes.length) 0 m.Lanes=none):
    S7 ⟨m⟩=some ((M2 (Mb m) 0 m.Lanes).getD 0)∧Hf m=some ((M2 (Mb m) 0 m.Lanes).getD 0):=by
  have hb:=B.lanes
  constructor
  ·have h:=Hy m.Lanes (O8 ⟨m⟩) (Mb m) (fun i l hl=>by
     have hi:=F5 hl
     have L:=Wh H hl
     obtain ⟨p1,p2⟩:=B.pts l (lF hl)
     unfold O8
     dsimp only
     rw [show decide ((i:Int)< (m.Lanes.length:Int))=true from l6 (by omega),D5 hl,l9,lA,IL (BP L.curve) p1,lA,(IM B H hl).1,PT (n:=(i:Int)+1) (by omega)]
     cases Mb m i l<;>rfl) (by
     unfold O8
     dsimp only
     rw [show decide ((m.Lanes.length:Int)< (m.Lanes.length:Int))=false from l7 (by omega)];rfl)
   unfold S7
   rw [h]
   cases M2 (Mb m) 0 m.Lanes<;>rfl
  ·have h:=Hy m.Lanes (Bd m) (Mb m) (fun i l hl=>by
     have hi:=F5 hl
     unfold Bd
     rw [show decide ((i:Int)< (m.Lanes.length:Int))=true from l6 (by omega),D5 hl,l9,lA,(IM B H hl).2,PT (n:=(i:Int)+1) (by omega)]
     cases Mb m i l<;>rfl) (by
     unfold Bd
     rw [show decide ((m.Lanes.length:Int)< (m.Lanes.length:Int))=false from l7 (by omega)];rfl)
   unfold Hf
   rw [h]
   cases M2 (Mb m) 0 m.Lanes<;>rfl
/-- The place of the first element with a property. -/
theorem PV {α:Type}{f:Int→Option (Stp Int (Sum Unit Int))}(l:List α)(P:α→Bool)(hl:l.length≤1000000000)(hf: ∀(i:Nat) a,l[i]? =some a→f (i:Int)=some (if P a then .out (.inr (i:Int))else .go (K2 ((i:Int)+1))))(he:f (l.length:Int)=some (.out (.inl ()))):
    loop f 0=some (match l.findIdx? P with|some i=> .inr (i:Int)|none=> .inl ()):=by
  have key: ∀(r:List α) (i:Nat),l.drop i=r→i≤l.length→loop f (i:Int)=some (match r.findIdx? P with|some j=> .inr ((i+j:Nat):Int)|none=> .inl ()):=by
    intro r
    induction r with
    |nil=>
     intro i hi hil
     have:=Es hi
     obtain rfl:i=l.length:=by omega
     rw [K3 he];rfl
    |cons a r ih=>
     intro i hi _
     have hlt:=Bv hi
     have h0:l[i]? =some a:=by have:=congrArg (fun z=>z[0]?) hi;simpa using this
     have hs:=hf i a h0
     rw [List.findIdx?_cons]
     by_cases hp:P a=true
     ·rw [bB hp]at hs
      rw [K3 hs,bB hp];simp
     ·rw [bC hp]at hs
      rw [R8 (by omega)]at hs
      rw [Y5 hs,show ((i:Int)+1)=((i+1:Nat):Int) by omega,ih (i+1) (W9 hi) (by omega),bC hp]
      cases r.findIdx? P with
      |none=>rfl
      |some j=>simp only [lE];congr 3;omega
  have:=key l 0 rfl (by omega)
  rw [show ((0:Nat):Int)=0 from rfl]at this
  rw [this]
  cases l.findIdx? P<;>simp
/-- -1, or the place. -/
def cX {α:Type}(P:α→Bool)(l:List α):Int:=match l.findIdx? P with|some i=>(i:Int)|none=> -1
theorem MZ {α:Type}(P:α→Bool)(l:List α):decide (cX P l≥0)=l.any P:=by
  unfold cX
  cases h:l.findIdx? P with
  |none=>
   have:=List.findIdx?_eq_none_iff.1 h
   rw [show l.any P=false by rw [List.any_eq_false];intro x hx;simpa using this x hx]
   decide
  |some i=>
   have:=List.findIdx?_isSome (xs:=l) (p:=P)
   rw [h]at this
   rw [← this]
   simp
/-- What both twins compute of a list. -/
theorem NA {α:Type}{f:Int→Option (Stp Int (Sum Unit Int))}(l:List α)(P:α→Bool)(hl:l.length≤1000000000)(hf: ∀(i:Nat) a,l[i]? =some a→f (i:Int)=some (if P a then .out (.inr (i:Int))else .go (K2 ((i:Int)+1))))(he:f (l.length:Int)=some (.out (.inl ()))):
    thenS (loop f 0) (fun _=>some (-1)) (fun r=>some r)=some (cX P l):=by
  rw [PV l P hl hf he]
  unfold cX
  cases l.findIdx? P<;>rfl
theorem TS (l:List Phase)(hl:l.length≤1000000):F1 l=some (l.any fun p=> !Wv p.Ticks 1 10000):=by
  unfold F1 F7
  rw [NA l (fun p=> !Wv p.Ticks 1 10000) (by omega) (fun i a h=>by
   have:=F5 h
   unfold J1 Dy
   rw [show decide ((i:Int)< (l.length:Int))=true from l6 (by omega),D5 h,l9,lA,Px,lA,lA]
   cases Wv a.Ticks 1 10000<;>rfl) (by
   unfold J1
   simp)]
  rw [lA,MZ]
theorem PW (m:Map)(l:List Phase)(hl:l.length≤1000000)(hm:m.Lanes.length≤1000000)(hg: ∀p∈l,p.Green.length≤1000000):E7 l ⟨m⟩=some (l.any fun p=> !Cr m.Lanes.length 0 p.Green):=by
  unfold E7 F6
  rw [NA l (fun p=> !Cr m.Lanes.length 0 p.Green) (by omega) (fun i a h=>by
   have:=F5 h
   unfold E6 R4
   dsimp only
   rw [show decide ((i:Int)< (l.length:Int))=true from l6 (by omega),D5 h,l9,lA,BO _ _ _ (hg a (lF h)) (by omega) (by omega),lA,lA]
   cases Cr (m.Lanes.length:Int) 0 a.Green<;>rfl) (by
   unfold E6
   simp)]
  rw [lA,MZ]
structure BearS (m:Map):Prop where
  many:m.Signals.length≤1000000
  phases: ∀s∈m.Signals,s.Phases.length≤1000000∧∀p∈s.Phases,p.Green.length≤1000000
def signalE (m:Map)(_:Nat)(s:Signal):Option Int:=
  if s.Phases.length=0 then some 6
  else if 6<s.Phases.length then some 8
  else if Wv s.Offset 0 1099511627776=false then some 2
  else if (s.Phases.any fun p=> !Wv p.Ticks 1 10000)=true then some 2
  else if (s.Phases.any fun p=> !Cr m.Lanes.length 0 p.Green)=true then some 11 else none
theorem PX {m:Map}(B:Bear m)(S:BearS m):R2 ⟨m⟩=some ((M2 (signalE m) 0 m.Signals).getD 0):=by
  have h:=Hy m.Signals (O1 ⟨m⟩) (signalE m) (fun i s hs=>by
    have hi:=F5 hs
    have hb:=S.many
    obtain ⟨p1,p2⟩:=S.phases s (lF hs)
    unfold O1 signalE
    dsimp only
    rw [show decide ((i:Int)< (m.Signals.length:Int))=true from l6 (by omega),D5 hs,l9,lA,Px,lA,TS _ p1,lA,PW m _ p1 B.lanes p2,lA,PT (n:=(i:Int)+1) (by omega)]
    by_cases h1:s.Phases.length=0
    ·rw [bB h1,h1];rfl
    ·rw [bC h1,show ((s.Phases.length:Int)==0)=false by simp only [beq_eq_false_iff_ne];omega,bA]
     by_cases h2:6<s.Phases.length
     ·rw [bB h2,show decide ((s.Phases.length:Int)>6)=true from l6 (by omega)];rfl
     ·rw [bC h2,show decide ((s.Phases.length:Int)>6)=false from l7 (by omega),bA]
      cases Wv s.Offset 0 1099511627776
      ·rfl
      ·cases (s.Phases.any fun p=> !Wv p.Ticks 1 10000)
       ·cases (s.Phases.any fun p=> !Cr m.Lanes.length 0 p.Green)<;>rfl
       ·rfl) (by
    unfold O1
    dsimp only
    rw [show decide ((m.Signals.length:Int)< (m.Signals.length:Int))=false from l7 (by omega)];rfl)
  unfold R2
  rw [h]
  cases M2 (signalE m) 0 m.Signals<;>rfl
theorem NB (s:Signal)(hl:s.Phases.length≤1000000): ∀(r:List Phase) (i:Nat) (b:Bool),s.Phases.drop i=r→i≤s.Phases.length→loop (V1 s) (b,(i:Int))=some (b&& !(r.any fun p=> !Wv p.Ticks 1 10000)):=by
  intro r
  induction r with
  |nil=>
   intro i b hi hil
   have:=Es hi
   refine K3 ?_
   unfold V1
   dsimp only
   rw [show decide ((i:Int)< (s.Phases.length:Int))=false from l7 (by omega)]
   simp
  |cons p r ih=>
   intro i b hi hil
   have hlt:=Bv hi
   have hs:V1 s (b,(i:Int))=some (.go (b&&Wv p.Ticks 1 10000,((i+1:Nat):Int))):=by
     unfold V1
     dsimp only
     rw [show decide ((i:Int)< (s.Phases.length:Int))=true from l6 (by omega),Bu hi,PT (n:=(i:Int)+1) (by omega)]
     cases b<;>rfl
   rw [Y5 hs,ih (i+1) _ (W9 hi) (by omega),List.any_cons]
   cases b<;>cases Wv p.Ticks 1 10000<;>simp
theorem JZ (m:Map)(s:Signal)(hl:s.Phases.length≤1000000)(hg: ∀p∈s.Phases,p.Green.length≤1000000):loop (V0 m s) 0=some (if (s.Phases.any fun p=> !Cr m.Lanes.length 0 p.Green)=true then .inr 11 else .inl ()):=by
  have h:=Hy s.Phases (V0 m s) (fun _ p=>if Cr m.Lanes.length 0 p.Green then none else some 11) (fun i p hp=>by
    have:=F5 hp
    unfold V0
    rw [show decide ((i:Int)< (s.Phases.length:Int))=true from l6 (by omega),D5 hp,l9,lA,Yk _ _ _ (hg p (lF hp)),lA,PT (n:=(i:Int)+1) (by omega)]
    cases Cr (m.Lanes.length:Int) 0 p.Green<;>rfl) (by
    unfold V0
    rw [show decide ((s.Phases.length:Int)< (s.Phases.length:Int))=false from l7 (by omega)];rfl)
  rw [h]
  have key: ∀(l:List Phase) (i:Nat),PS (M2 (fun (_:Nat) (p:Phase)=>if Cr (m.Lanes.length:Int) 0 p.Green=true then none else some (11:Int)) i l)=if (l.any fun p=> !Cr m.Lanes.length 0 p.Green)=true then .inr 11 else .inl ():=by
    intro l
    induction l with
    |nil=>intro i;rfl
    |cons p r ih=>
     intro i
     unfold M2
     rw [List.any_cons]
     cases hq:Cr (m.Lanes.length:Int) 0 p.Green
     ·rfl
     ·exact ih (i+1)
  rw [key]
end Go.Abs.Roadsz
/-! Loops over lists, as functions on lists. -/
namespace Go.Abs
open Go
section
variable {α β σ S τ:Type}
/-- What a loop over a list makes, with a state, and with a way out. -/
def CF (step:Nat→σ→α→Sum σ τ)(fin:σ→τ):Nat→σ→List α→τ
  |_,s,[]=>fin s
  |i,s,a::r=>match step i s a with
   | .inl s'=>CF step fin (i+1) s' r
   | .inr t=>t
theorem NC {l:List α}{i:Nat}{a:α}{r:List α}(h:l.drop i=a::r):l[i]? =some a:=by
  have:=congrArg (fun z=>z[0]?) h
  simpa using this
theorem YE {F:S→Option (Stp S τ)}(pk:Nat→σ→S)(l:List α)(inv:Nat→σ→Prop)(step:Nat→σ→α→Sum σ τ)(fin:σ→τ){s0:σ}{S0:S}(hS:pk 0 s0=S0)(hi:inv 0 s0)
    (hF: ∀i a s,l[i]? =some a→inv i s→F (pk i s)=some (match step i s a with| .inl s'=> .go (pk (i+1) s')| .inr t=> .out t))
    (hI: ∀i a s s',l[i]? =some a→inv i s→step i s a= .inl s'→inv (i+1) s')
    (h0: ∀s,inv l.length s→F (pk l.length s)=some (.out (fin s))):loop F S0=some (CF step fin 0 s0 l):=by
  have key: ∀(r:List α) (i:Nat) (s:σ),l.drop i=r→i≤l.length→inv i s→loop F (pk i s)=some (CF step fin i s r):=by
    intro r
    induction r with
    |nil=>
     intro i s hi hil hv
     have:=Es hi
     obtain rfl:i=l.length:=by omega
     exact K3 (h0 s hv)
    |cons a r ih=>
     intro i s hi hil hv
     have hlt:=Bv hi
     have ha:=NC hi
     have hs:=hF i a s ha hv
     unfold CF
     cases h:step i s a with
     |inl s'=>rw [h]at hs;rw [Y5 hs];exact ih (i+1) s' (W9 hi) (by omega) (hI i a s s' ha hv h)
     |inr t=>rw [h]at hs;exact K3 hs
  rw [← hS]
  exact key l 0 s0 rfl (by omega) hi
/-- The same without a way out. -/
def AB (step:Nat→σ→α→σ):Nat→σ→List α→σ
  |_,s,[]=>s
  |i,s,a::r=>AB step (i+1) (step i s a) r
theorem CG (step:Nat→σ→α→σ)(fin:σ→τ): ∀(l:List α) (i:Nat) (s:σ),CF (fun i s a=> .inl (step i s a)) fin i s l=fin (AB step i s l)
  | [],_,_=>rfl
  |_::r,i,_=>CG step fin r (i+1) _
theorem eO {F:S→Option (Stp S τ)}(pk:Nat→σ→S)(l:List α)(inv:Nat→σ→Prop)(step:Nat→σ→α→σ)(fin:σ→τ){s0:σ}{S0:S}(hS:pk 0 s0=S0)(hi:inv 0 s0)
    (hF: ∀i a s,l[i]? =some a→inv i s→F (pk i s)=some (.go (pk (i+1) (step i s a))))
    (hI: ∀i a s,l[i]? =some a→inv i s→inv (i+1) (step i s a))
    (h0: ∀s,inv l.length s→F (pk l.length s)=some (.out (fin s))):loop F S0=some (fin (AB step 0 s0 l)):=by
  rw [← CG step fin]
  exact YE pk l inv _ fin hS hi hF (fun i a s s' h1 h2 h3=>by cases h3;exact hI i a s h1 h2) h0
/-- The elements that a loop gathers. -/
def CH (g:Nat→α→Option β):Nat→List α→List β
  |_,[]=> []
  |i,a::r=>match g i a with
   |some b=>b::CH g (i+1) r
   |none=>CH g (i+1) r
theorem FR (g:Nat→α→Option β): ∀(l:List α) (i:Nat) (s:List β),AB (fun i s a=>match g i a with|some b=>s++ [b]|none=>s) i s l=s++CH g i l
  | [],_,s=>by simp [AB,CH]
  |a::r,i,s=>by
   unfold AB CH
   rw [FR g r (i+1)]
   cases g i a<;>simp
theorem jF {F:S→Option (Stp S τ)}(pk:Nat→List β→S)(l:List α)(g:Nat→α→Option β)(fin:List β→τ){S0:S}(hS:pk 0 []=S0)
    (hF: ∀i a (s:List β),l[i]? =some a→s.length≤i→F (pk i s)=some (.go (pk (i+1) (match g i a with|some b=>s++ [b]|none=>s))))
    (h0: ∀s,F (pk l.length s)=some (.out (fin s))):loop F S0=some (fin (CH g 0 l)):=by
  have:=eO pk l (fun i s=>s.length≤i) (fun i s a=>match g i a with|some b=>s++ [b]|none=>s) fin hS (by simp) hF (fun i a s _ hs=>by
    cases g i a<;>simp<;>omega) (fun s _=>h0 s)
  rw [this,FR,lO]
/-- Is there one? -/
theorem AD {F:Int→Option (Stp Int (Sum Unit β))}(l:List α)(p:α→Bool)(v:β)(hF: ∀(i:Nat) a,l[i]? =some a→F (i:Int)=some (if p a then .out (.inr v)else .go ((i+1:Nat):Int)))(h0:F (l.length:Int)=some (.out (.inl ()))):
    loop F 0=some (if l.any p then .inr v else .inl ()):=by
  have key: ∀(l:List α) (i:Nat),CF (fun _ _ a=>if p a then Sum.inr (Sum.inr v)else Sum.inl ()) (fun _=>(Sum.inl ():Sum Unit β)) i () l=if l.any p then .inr v else .inl ():=by
    intro l
    induction l with
    |nil=>intro i;rfl
    |cons a r ih=>
     intro i
     unfold CF
     rw [List.any_cons]
     cases h:p a
     ·exact ih (i+1)
     ·rfl
  rw [← key l 0]
  exact YE (F:=F) (σ:=Unit) (fun i _=>(i:Int)) l (fun _ _=>True) _ _ (s0:=()) rfl trivial (fun i a _ h _=>by rw [hF i a h];cases p a<;>rfl) (fun _ _ _ _ _ _ _=>trivial) (fun _ _=>h0)
end
theorem N6 {i:Nat}{n:Nat}(h:i<n):decide ((i:Int)< (n:Int))=true:=l6 (by omega)
theorem L4 (n:Nat):decide ((n:Int)< (n:Int))=false:=l7 (by omega)
theorem H7 {i:Nat}{n:Nat}(h:i<n)(hn:n≤1000000000000):K2 ((i:Int)+1)=((i+1:Nat):Int):=by rw [R8 (by omega)];omega
end Go.Abs
namespace Go.Abs.Roadsz
open Go Go.Abs
structure BearZ (m:Map):Prop where
  many:m.Zones.length≤1000000
  parts: ∀z∈m.Zones,z.Parts.length≤1000000
noncomputable def Gx (m:Map)(k:Int):Int:=((m.Lanes[k.toNat]?).map fun l=>YA l.Curve_).getD 0
noncomputable def Rw (m:Map)(p:Part):Bool:=decide (p.From<0)||decide (p.From≥p.To)||decide (p.To>Gx m p.Lane_)||decide (p.Rank<0)||decide (p.Rank>100)
noncomputable def zoneE (m:Map)(_:Nat)(z:Zone):Option Int:=
  if z.Parts.length<2 then some 6
  else if 6<z.Parts.length then some 8
  else if z.Signal_<0∨(m.Signals.length:Int)<z.Signal_ then some 2
  else if Cr m.Lanes.length 0 (z.Parts.map (·.Lane_))=false then some 11
  else if z.Parts.any (Rw m)=true then some 2 else none
theorem Ww {m:Map}{k:Int}(h0:0≤k)(h1:k<m.Lanes.length): ∃l,m.Lanes[k.toNat]? =some l∧F0 m.Lanes k=some l:=by
  have hlt:k.toNat<m.Lanes.length:=by omega
  refine ⟨m.Lanes[k.toNat],lG hlt,?_⟩
  unfold F0
  rw [bB h0,lG hlt]
theorem RQ {m:Map}(B:Bear m){k:Int}(h0:0≤k)(h1:k<m.Lanes.length):Z6 m k=some (Gx m k):=by
  obtain ⟨l,e1,e2⟩:=Ww h0 h1
  have:=cW (m:=m) e1 (B.pts l (lF e1)).1
  rw [show ((k.toNat:Nat):Int)=k by omega]at this
  rw [this,Gx,e1];rfl
theorem ND {m:Map}(B:Bear m){k:Int}(h0:0≤k)(h1:k<m.Lanes.length): ∃l,F0 m.Lanes k=some l∧Gr l.Curve_=some (Gx m k):=by
  obtain ⟨l,e1,e2⟩:=Ww h0 h1
  refine ⟨l,e2,?_⟩
  rw [DE _ (B.pts l (lF e1)).1,Gx,e1];rfl
theorem NE {α β:Type}(f:α→β): ∀(l:List α) (i:Nat),CH (fun _ a=>some (f a)) i l=l.map f
  | [],_=>rfl
  |a::r,i=>by rw [CH,NE f r];rfl
theorem YF {z:Zone}{F:List Int×Int→Option (Stp (List Int×Int) (List Int))}(hl:z.Parts.length≤1000000)
    (hF: ∀x,F x=cond (decide (x.2< (z.Parts.length:Int))) ((F0 z.Parts x.2).bind fun v=>(Q4 x.1 [v.Lane_]).bind fun w=>some (.go (w,K2 (x.2+1)))) (some (.out x.1))):
    loop F ([],0)=some (z.Parts.map (·.Lane_)):=by
  rw [← NE (fun p:Part=>p.Lane_) z.Parts 0]
  refine jF (fun i s=>(s,(i:Int))) z.Parts (fun _ p=>some p.Lane_) id rfl (fun i a s ha hs=> ?_) (fun s=> ?_)
  ·have hi:=F5 ha
   rw [hF,N6 hi,D5 ha,l9,lA,Dx (by simp;omega),lA,H7 hi (by omega)]
  ·rw [hF,L4];rfl
theorem YG {m:Map}(B:Bear m)(Z:BearZ m):U4 ⟨m⟩=some ((M2 (zoneE m) 0 m.Zones).getD 0):=by
  have hb:=B.lanes
  have h:=Hy m.Zones (Q0 ⟨m⟩) (zoneE m) (fun i z hz=>by
    have hi:=F5 hz
    have hm:=Z.many
    have p1:=Z.parts z (lF hz)
    unfold Q0 zoneE
    dsimp only
    rw [N6 hi,D5 hz,l9,lA,YF p1 (F:=Ew z) (fun x=>rfl),lA,BO _ _ _ (by simpa using p1) (by omega) (by omega),lA,H7 hi (by omega)]
    by_cases h1:z.Parts.length<2
    ·rw [bB h1,show decide ((z.Parts.length:Int)<2)=true from l6 (by omega)];rfl
    ·rw [bC h1,show decide ((z.Parts.length:Int)<2)=false from l7 (by omega),bA]
     by_cases h2:6<z.Parts.length
     ·rw [bB h2,show decide ((z.Parts.length:Int)>6)=true from l6 (by omega)];rfl
     ·rw [bC h2,show decide ((z.Parts.length:Int)>6)=false from l7 (by omega),bA]
      by_cases h3:z.Signal_<0∨(m.Signals.length:Int)<z.Signal_
      ·rw [bB h3,show ((decide (z.Signal_<0))||(decide (z.Signal_>(m.Signals.length:Int))))=true by simpa using h3];rfl
      ·rw [bC h3,show ((decide (z.Signal_<0))||(decide (z.Signal_>(m.Signals.length:Int))))=false by rw [bJ];simpa using h3,bA]
       cases h4:Cr (m.Lanes.length:Int) 0 (z.Parts.map (·.Lane_))
       ·rfl
       ·rw [bC (by decide)]
        have:=AD (F:=P9 ⟨m⟩ z) z.Parts (Rw m) (2:Int) (fun j p hp=>by
          have hj:=F5 hp
          have hk:=Kz h4 p.Lane_ (List.mem_map.2 ⟨p,lF hp,rfl⟩)
          unfold P9 Rw
          dsimp only
          rw [N6 hj,D5 hp,l9,lA,RQ B hk.1 hk.2,H7 hj (by omega)]
          cases h5:(decide (p.From<0)||decide (p.From≥p.To))
          ·simp only [bH,l9,lA]
           cases (false||decide (p.To>Gx m p.Lane_)||decide (p.Rank<0)||decide (p.Rank>100))<;>rfl
          ·rfl) (by unfold P9;rw [L4];rfl)
        rw [this]
        cases z.Parts.any (Rw m)<;>rfl) (by
    unfold Q0
    dsimp only
    rw [L4];rfl)
  unfold U4
  rw [h]
  cases M2 (zoneE m) 0 m.Zones<;>rfl
theorem YH {m:Map}(B:Bear m)(Z:BearZ m){i:Nat}{z:Zone}(hz:m.Zones[i]? =some z):Hg m z=some ((zoneE m i z).getD 0):=by
  have hb:=B.lanes
  have p1:=Z.parts z (lF hz)
  unfold Hg zoneE
  rw [YF p1 (F:=Gs z) (fun x=>rfl),lA,Yk _ _ _ (by simpa using p1),lA]
  by_cases h1:z.Parts.length<2
  ·rw [bB h1,show decide ((z.Parts.length:Int)<2)=true from l6 (by omega)];rfl
  ·rw [bC h1,show decide ((z.Parts.length:Int)<2)=false from l7 (by omega),bA]
   by_cases h2:6<z.Parts.length
   ·rw [bB h2,show decide ((z.Parts.length:Int)>6)=true from l6 (by omega)];rfl
   ·rw [bC h2,show decide ((z.Parts.length:Int)>6)=false from l7 (by omega),bA]
    by_cases h3:z.Signal_<0∨(m.Signals.length:Int)<z.Signal_
    ·rw [bB h3,show ((decide (z.Signal_<0))||(decide (z.Signal_>(m.Signals.length:Int))))=true by simpa using h3];rfl
    ·rw [bC h3,show ((decide (z.Signal_<0))||(decide (z.Signal_>(m.Signals.length:Int))))=false by rw [bJ];simpa using h3,bA]
     cases h4:Cr (m.Lanes.length:Int) 0 (z.Parts.map (·.Lane_))
     ·rfl
     ·rw [bC (by decide)]
      have:=AD (F:=Be m z) z.Parts (Rw m) (2:Int) (fun j p hp=>by
        have hj:=F5 hp
        have hk:=Kz h4 p.Lane_ (List.mem_map.2 ⟨p,lF hp,rfl⟩)
        obtain ⟨l,e1,e2⟩:=ND B hk.1 hk.2
        unfold Be Rw
        rw [N6 hj,D5 hp,l9,lA,e1,H7 hj (by omega)]
        cases h5:(decide (p.From<0)||decide (p.From≥p.To))
        ·simp only [bH,l9,lA,e2]
         cases (false||decide (p.To>Gx m p.Lane_)||decide (p.Rank<0)||decide (p.Rank>100))<;>rfl
        ·rfl) (by unfold Be;rw [L4];rfl)
      rw [this]
      cases z.Parts.any (Rw m)<;>rfl
structure BearW (m:Map):Prop where
  many:m.Works.length≤1000000
noncomputable def workE (m:Map)(_:Nat)(w:Work):Option Int:=
  if w.Lane_<0∨(m.Lanes.length:Int)≤w.Lane_ then some 7
  else if (decide (w.From<0)||decide (w.From>w.To)||decide (w.To>Gx m w.Lane_)||decide (w.Begin<0)||decide (w.Begin≥w.End)||decide (w.End>1099511627776)|| !Wv w.Limit 0 ((m.Lanes[w.Lane_.toNat]?).map fun l=>(Qz l.Kind).1).get!)=true then some 2 else none
theorem YI {m:Map}(B:Bear m)(W:BearW m):U5 ⟨m⟩=some ((M2 (workE m) 0 m.Works).getD 0):=by
  have hb:=B.lanes
  have h:=Hy m.Works (Q1 ⟨m⟩) (workE m) (fun i w hw=>by
    have hi:=F5 hw
    have hm:=W.many
    unfold Q1 workE
    dsimp only
    rw [N6 hi,D5 hw,l9,lA,H7 hi (by omega)]
    by_cases h1:w.Lane_<0∨(m.Lanes.length:Int)≤w.Lane_
    ·rw [bB h1,show ((decide (w.Lane_<0))||(decide (w.Lane_≥(m.Lanes.length:Int))))=true by simpa using h1];rfl
    ·rw [bC h1,show ((decide (w.Lane_<0))||(decide (w.Lane_≥(m.Lanes.length:Int))))=false by rw [bJ];simpa using h1,bA]
     obtain ⟨l,e1,e2⟩:=Ww (m:=m) (k:=w.Lane_) (by omega) (by omega)
     rw [e2,lA,IJ,lA,RQ B (by omega) (by omega),Px,e1]
     simp only [lE,Option.get!_some]
     cases (decide (w.From<0)||decide (w.From>w.To))
     ·simp only [bH,l9,lA]
      cases (false||decide (w.To>Gx m w.Lane_)||decide (w.Begin<0)||decide (w.Begin≥w.End)||decide (w.End>1099511627776))
      ·simp only [bH,l9,lA]
       by_cases hq:Wv w.Limit 0 (Qz l.Kind).1=true<;>simp [hq]
      ·rfl
     ·rfl) (by
    unfold Q1
    dsimp only
    rw [L4];rfl)
  unfold U5
  rw [h]
  cases M2 (workE m) 0 m.Works<;>rfl
theorem YJ {m:Map}(B:Bear m){i:Nat}(w:Work):Hh m w=some ((workE m i w).getD 0):=by
  have hb:=B.lanes
  unfold Hh workE
  by_cases h1:w.Lane_<0∨(m.Lanes.length:Int)≤w.Lane_
  ·rw [bB h1,show ((decide (w.Lane_<0))||(decide (w.Lane_≥(m.Lanes.length:Int))))=true by simpa using h1];rfl
  ·rw [bC h1,show ((decide (w.Lane_<0))||(decide (w.Lane_≥(m.Lanes.length:Int))))=false by rw [bJ];simpa using h1,bA]
   obtain ⟨l,e1,e2⟩:=Ww (m:=m) (k:=w.Lane_) (by omega) (by omega)
   obtain ⟨l',e3,e4⟩:=ND B (k:=w.Lane_) (by omega) (by omega)
   rw [e2]at e3
   cases e3
   rw [e2,lA,FO,lA,e4,Qy,e1]
   simp only [lE,Option.get!_some]
   cases (decide (w.From<0)||decide (w.From>w.To))
   ·simp only [bH,l9,lA]
    cases (false||decide (w.To>Gx m w.Lane_)||decide (w.Begin<0)||decide (w.Begin≥w.End)||decide (w.End>1099511627776))
    ·simp only [bH,l9,lA]
     by_cases hq:Wv w.Limit 0 (Qz l.Kind).1=true<;>simp [hq]
    ·rfl
   ·rfl
theorem PY {m:Map}(S:BearS m)(i:Nat){s:Signal}(hs:s∈m.Signals):Fa m s=some ((signalE m i s).getD 0):=by
  obtain ⟨p1,p2⟩:=S.phases s hs
  unfold Fa signalE
  rw [Qy,lA,show (0:Int)=((0:Nat):Int) from rfl,NB s p1 s.Phases 0 _ rfl (by omega),lA]
  rw [show ((0:Nat):Int)=0 from rfl,JZ m s p1 p2]
  by_cases h1:s.Phases.length=0
  ·rw [bB h1,h1];rfl
  ·rw [bC h1,show ((s.Phases.length:Int)==0)=false by simp only [beq_eq_false_iff_ne];omega,bA]
   by_cases h2:6<s.Phases.length
   ·rw [bB h2,show decide ((s.Phases.length:Int)>6)=true from l6 (by omega)];rfl
   ·rw [bC h2,show decide ((s.Phases.length:Int)>6)=false from l7 (by omega),bA]
    cases Wv s.Offset 0 1099511627776
    ·rfl
    ·cases (s.Phases.any fun p=> !Wv p.Ticks 1 10000)
     ·cases (s.Phases.any fun p=> !Cr m.Lanes.length 0 p.Green)<;>rfl
     ·rfl
/-- All lists of a map are of bearable lengths. -/
structure BearM (m:Map):Prop where
  toBear:Bear m
  toBearS:BearS m
  toBearZ:BearZ m
  toBearW:BearW m
theorem BearM.lanes {m:Map}(B:BearM m):m.Lanes.length≤1000000:=B.toBear.lanes
noncomputable def Rn (m:Map):Int:=
  if Wv m.Version 0 1099511627776=false then 2
  else if m.Lanes.length=0 then 6
  else if 12<m.Lanes.length∨12<m.Zones.length∨4<m.Signals.length∨8<m.Works.length then 8
  else ((M2 (laneE m.Lanes.length) 0 m.Lanes).or ((M2 (Mb m) 0 m.Lanes).or ((M2 (signalE m) 0 m.Signals).or ((M2 (zoneE m) 0 m.Zones).or (M2 (workE m) 0 m.Works))))).getD 0
theorem Bj {α:Type}{g:Nat→α→Option Int}(h: ∀i a e,g i a=some e→e≠0): ∀{l:List α} {i:Nat} {e:Int},M2 g i l=some e→e≠0
  | [],_,_,q=>by cases q
  |a::r,i,e,q=>by
   unfold M2 at q
   cases hg:g i a with
   |some e'=>rw [hg]at q;cases q;exact h i a e hg
   |none=>rw [hg]at q;exact Bj h q
theorem AE {m:Map}{i:Nat}{z:Zone}{e:Int}(h:zoneE m i z=some e):e≠0:=by
  unfold zoneE at h
  repeat' split at h
  all_goals first|(cases h;decide)|cases h
theorem Uk {m:Map}{i:Nat}{z:Signal}{e:Int}(h:signalE m i z=some e):e≠0:=by
  unfold signalE at h
  repeat' split at h
  all_goals first|(cases h;decide)|cases h
theorem FS {m:Map}{i:Nat}{z:Work}{e:Int}(h:workE m i z=some e):e≠0:=by
  unfold workE at h
  repeat' split at h
  all_goals first|(cases h;decide)|cases h
theorem FT {m:Map}{i:Nat}{z:Lane}{e:Int}(h:Mb m i z=some e):e≠0:=Bj (fun _ _ _=>TR) h
/-- A loop that goes on as long as there is no error. -/
theorem YK {α:Type}{F:Int×Int→Option (Stp (Int×Int) Int)}(l:List α)(g:Nat→α→Option Int)(hg: ∀i a e,g i a=some e→e≠0)(hl:l.length≤1000000)
    (hF: ∀(i:Nat) a,l[i]? =some a→F (0,(i:Int))=some (.go ((g i a).getD 0,((i+1:Nat):Int)))) (h0: ∀(i:Nat) (e:Int),e≠0→F (e,(i:Int))=some (.out e)) (h1:F (0,(l.length:Int))=some (.out 0)) (e0:Option Int) (he: ∀e,e0=some e→e≠0):
    loop F (e0.getD 0,0)=some ((e0.or (M2 g 0 l)).getD 0):=by
  have key: ∀(r:List α) (i:Nat),l.drop i=r→i≤l.length→loop F (0,(i:Int))=some ((M2 g i r).getD 0):=by
    intro r
    induction r with
    |nil=>
     intro i hi hil
     have:=Es hi
     obtain rfl:i=l.length:=by omega
     exact K3 h1
    |cons a r ih=>
     intro i hi hil
     have hlt:=Bv hi
     have hs:=hF i a (NC hi)
     rw [Y5 hs]
     unfold M2
     cases h:g i a with
     |some e=>exact K3 (h0 (i+1) e (hg i a e h))
     |none=>exact ih (i+1) (W9 hi) (by omega)
  cases e0 with
  |some e=>exact K3 (h0 0 e (he e rfl))
  |none=>exact key l 0 rfl (by omega)
theorem Wi {m:Map}(B:BearM m):Kv m=some (Rn m):=by
  have hb:=B.lanes
  unfold Kv Rn
  rw [Qy,lA]
  cases Wv m.Version 0 1099511627776
  ·rfl
  ·simp only [bG,bA,Bool.true_eq_false,if_false]
   by_cases h1:m.Lanes.length=0
   ·rw [bB h1,h1];rfl
   ·rw [bC h1,show ((m.Lanes.length:Int)==0)=false by simp only [beq_eq_false_iff_ne];omega,bA]
    by_cases h2:12<m.Lanes.length∨12<m.Zones.length∨4<m.Signals.length∨8<m.Works.length
    ·rw [bB h2,show ((((decide ((m.Lanes.length:Int)>12))||(decide ((m.Zones.length:Int)>12)))||(decide ((m.Signals.length:Int)>4)))||(decide ((m.Works.length:Int)>8)))=true by simp;omega];rfl
    ·rw [bC h2,show ((((decide ((m.Lanes.length:Int)>12))||(decide ((m.Zones.length:Int)>12)))||(decide ((m.Signals.length:Int)>4)))||(decide ((m.Works.length:Int)>8)))=false by simp;omega,bA]
     rw [MX B.toBear]
     cases H:M2 (laneE m.Lanes.length) 0 m.Lanes with
     |some e=>rfl
     |none=>
      have n1: ∀e,M2 (Mb m) 0 m.Lanes=some e→e≠0:=fun e h=>Bj (fun _ _ _=>FT) h
      have n2: ∀e,(M2 (Mb m) 0 m.Lanes).or (M2 (signalE m) 0 m.Signals)=some e→e≠0:=fun e h=>by
        rcases Option.or_eq_some_iff.1 h with h|⟨_,h⟩
        ·exact n1 e h
        ·exact Bj (fun _ _ _=>Uk) h
      have n3: ∀e,((M2 (Mb m) 0 m.Lanes).or (M2 (signalE m) 0 m.Signals)).or (M2 (zoneE m) 0 m.Zones)=some e→e≠0:=fun e h=>by
        rcases Option.or_eq_some_iff.1 h with h|⟨_,h⟩
        ·exact n2 e h
        ·exact Bj (fun _ _ _=>AE) h
      simp only [PS,thenS,Option.none_or]
      rw [(IN B.toBear H).2,lA]
      rw [YK m.Signals (signalE m) (fun _ _ _=>Uk) B.toBearS.many (fun i a ha=>by
       have hi:=F5 ha
       have hm:=B.toBearS.many
       unfold Fz
       dsimp only
       rw [N6 hi,D5 ha,bD,show ((0:Int)==0)=true from rfl,l9,lA,PY B.toBearS i (lF ha),H7 hi (by omega)];rfl) (fun i e he=>by
       unfold Fz
       dsimp only
       rw [show (e==0)=false by simpa using he,Bool.and_false];rfl) (by unfold Fz;dsimp only;rw [L4];rfl) _ n1,lA]
      rw [YK m.Zones (zoneE m) (fun _ _ _=>AE) B.toBearZ.many (fun i a ha=>by
       have hi:=F5 ha
       have hm:=B.toBearZ.many
       unfold Fy
       dsimp only
       rw [N6 hi,D5 ha,bD,show ((0:Int)==0)=true from rfl,l9,lA,YH B.toBear B.toBearZ ha,H7 hi (by omega)];rfl) (fun i e he=>by
       unfold Fy
       dsimp only
       rw [show (e==0)=false by simpa using he,Bool.and_false];rfl) (by unfold Fy;dsimp only;rw [L4];rfl) _ n2,lA]
      rw [YK m.Works (workE m) (fun _ _ _=>FS) B.toBearW.many (fun i a ha=>by
       have hi:=F5 ha
       have hm:=B.toBearW.many
       unfold Fx
       dsimp only
       rw [N6 hi,D5 ha,bD,show ((0:Int)==0)=true from rfl,l9,lA,YJ B.toBear (i:=i) a,H7 hi (by omega)];rfl) (fun i e he=>by
       unfold Fx
       dsimp only
       rw [show (e==0)=false by simpa using he,Bool.and_false];rfl) (by unfold Fx;dsimp only;rw [L4];rfl) _ n3,lA]
      rw [Option.or_assoc,Option.or_assoc]
theorem Wj {m:Map}(B:BearM m):W7 m=some (Rn m):=by
  have hb:=B.lanes
  have s0:N9 m 0=(Ad ⟨m⟩).bind fun v2=>cond (v2 !=0) (some (.out (.inr v2))) (some (.go 1)):=rfl
  have s1:N9 m 1=(U3 ⟨m⟩).bind fun v2=>cond (v2 !=0) (some (.out (.inr v2))) (some (.go 2)):=rfl
  have s2:N9 m 2=(S7 ⟨m⟩).bind fun v2=>cond (v2 !=0) (some (.out (.inr v2))) (some (.go 3)):=rfl
  have s3:N9 m 3=(R2 ⟨m⟩).bind fun v2=>cond (v2 !=0) (some (.out (.inr v2))) (some (.go 4)):=rfl
  have s4:N9 m 4=(U4 ⟨m⟩).bind fun v2=>cond (v2 !=0) (some (.out (.inr v2))) (some (.go 5)):=rfl
  have s5:N9 m 5=(U5 ⟨m⟩).bind fun v2=>cond (v2 !=0) (some (.out (.inr v2))) (some (.go 6)):=rfl
  have s6:N9 m 6=some (.out (.inl ())):=rfl
  have gU: ∀(i j:Int) (e:Option Int) (X:Option Int),(∀e',e=some e'→e'≠0)→X=some (e.getD 0)→N9 m i=X.bind (fun v2=>cond (v2 !=0) (some (.out (.inr v2))) (some (.go j)))→loop (N9 m) i=match e with|some e'=>some (.inr e')|none=>loop (N9 m) j:=by
    intro i j e X he hX hs
    subst hX
    rw [lA]at hs
    cases e with
    |none=>exact Y5 hs
    |some e'=>
     rw [Option.getD_some,show (e' !=0)=true by simpa using he e' rfl]at hs
     exact K3 hs
  unfold W7 Rn
  have hnum:Ad ⟨m⟩=some ((if Wv m.Version 0 1099511627776=false then some 2 else if m.Lanes.length=0 then some 6 else if 12<m.Lanes.length∨12<m.Zones.length∨4<m.Signals.length∨8<m.Works.length then some 8 else none:Option Int).getD 0):=by
    unfold Ad
    dsimp only
    rw [Px,lA]
    cases Wv m.Version 0 1099511627776
    ·rfl
    ·simp only [bG,bA,Bool.true_eq_false,if_false]
     by_cases h1:m.Lanes.length=0
     ·rw [bB h1,h1];rfl
     ·rw [bC h1,show ((m.Lanes.length:Int)==0)=false by simp only [beq_eq_false_iff_ne];omega,bA]
      by_cases h2:12<m.Lanes.length∨12<m.Zones.length∨4<m.Signals.length∨8<m.Works.length
      ·rw [bB h2,show ((((decide ((m.Lanes.length:Int)>12))||(decide ((m.Zones.length:Int)>12)))||(decide ((m.Signals.length:Int)>4)))||(decide ((m.Works.length:Int)>8)))=true by simp;omega];rfl
      ·rw [bC h2,show ((((decide ((m.Lanes.length:Int)>12))||(decide ((m.Zones.length:Int)>12)))||(decide ((m.Signals.length:Int)>4)))||(decide ((m.Works.length:Int)>8)))=false by simp;omega];rfl
  rw [gU 0 1 _ _ (by (repeat' split);all_goals (intro e' h;first|(cases h;decide)|cases h)) hnum s0]
  by_cases q1:Wv m.Version 0 1099511627776=false
  ·rw [bB q1,bB q1];rfl
  ·rw [bC q1,bC q1]
   by_cases q2:m.Lanes.length=0
   ·rw [bB q2,bB q2];rfl
   ·rw [bC q2,bC q2]
    by_cases q3:12<m.Lanes.length∨12<m.Zones.length∨4<m.Signals.length∨8<m.Works.length
    ·rw [bB q3,bB q3];rfl
    ·rw [bC q3,bC q3]
     dsimp only
     rw [gU 1 2 _ _ (fun e' h=>Bj (fun _ _ _=>FP) h) (YB B.toBear) s1]
     cases H:M2 (laneE m.Lanes.length) 0 m.Lanes with
     |some e=>rfl
     |none=>
      dsimp only
      rw [gU 2 3 _ _ (fun e' h=>Bj (fun _ _ _=>FT) h) (IN B.toBear H).1 s2]
      cases M2 (Mb m) 0 m.Lanes with
      |some e=>rfl
      |none=>
       dsimp only
       rw [gU 3 4 _ _ (fun e' h=>Bj (fun _ _ _=>Uk) h) (PX B.toBear B.toBearS) s3]
       cases M2 (signalE m) 0 m.Signals with
       |some e=>rfl
       |none=>
        dsimp only
        rw [gU 4 5 _ _ (fun e' h=>Bj (fun _ _ _=>AE) h) (YG B.toBear B.toBearZ) s4]
        cases M2 (zoneE m) 0 m.Zones with
        |some e=>rfl
        |none=>
         dsimp only
         rw [gU 5 6 _ _ (fun e' h=>Bj (fun _ _ _=>FS) h) (YI B.toBear B.toBearW) s5]
         cases M2 (workE m) 0 m.Works with
         |some e=>rfl
         |none=>dsimp only;rw [K3 s6];rfl
/-- What a valid map is. -/
structure ValR (m:Map):Prop where
  ver:0≤m.Version∧m.Version≤1099511627776
  pos:0<m.Lanes.length
  lanes:m.Lanes.length≤12
  zones:m.Zones.length≤12
  signals:m.Signals.length≤4
  works:m.Works.length≤8
  laneE:M2 (laneE m.Lanes.length) 0 m.Lanes=none
  Mb:M2 (Mb m) 0 m.Lanes=none
  signalE:M2 (signalE m) 0 m.Signals=none
  zoneE:M2 (zoneE m) 0 m.Zones=none
  workE:M2 (workE m) 0 m.Works=none
theorem TT {α:Type}{g:Nat→α→Option Int}{l:List α}(h: ∀i a e,g i a=some e→e≠0)(h0:(M2 g 0 l).getD 0=0):M2 g 0 l=none:=by
  cases q:M2 g 0 l with
  |none=>rfl
  |some e=>rw [q]at h0;exact absurd h0 (Bj h q)
theorem chkR_zero {m:Map}:Rn m=0↔ValR m:=by
  unfold Rn
  constructor
  ·intro h
   split at h
   ·cases h
   ·rename_i h1
    split at h
    ·cases h
    ·rename_i h2
     split at h
     ·cases h
     ·rename_i h3
      simp only [Wv,Bool.not_eq_false,bE,l8]at h1
      have key: ∀{o r:Option Int},(∀e,o=some e→e≠0)→(o.or r).getD 0=0→o=none∧r.getD 0=0:=by
        intro o r ho hr
        cases o with
        |none=>exact ⟨rfl,hr⟩
        |some e=>exact absurd hr (ho e rfl)
      obtain ⟨a1,h⟩:=key (fun e h=>Bj (fun _ _ _=>FP) h) h
      obtain ⟨a2,h⟩:=key (fun e h=>Bj (fun _ _ _=>FT) h) h
      obtain ⟨a3,h⟩:=key (fun e h=>Bj (fun _ _ _=>Uk) h) h
      obtain ⟨a4,h⟩:=key (fun e h=>Bj (fun _ _ _=>AE) h) h
      exact ⟨h1,by omega,by omega,by omega,by omega,by omega,a1,a2,a3,a4,TT (fun _ _ _=>FS) h⟩
  ·rintro ⟨h1,h2,h3,h4,h5,h6,a1,a2,a3,a4,a5⟩
   rw [bC (by simp only [Wv,Bool.not_eq_false,bE,l8];exact h1),bC (by omega),bC (by omega),a1,a2,a3,a4,a5];rfl
section
variable {m:Map}
theorem ValR.laneOK (V:ValR m){i:Nat}{l:Lane}(h:m.Lanes[i]? =some l):LaneOK m.Lanes.length i l:=Wh V.laneE h
theorem ValR.next (V:ValR m){i:Nat}{l:Lane}(h:m.Lanes[i]? =some l){k:Int}(hk:k∈l.Next):(i:Int)<k∧k<m.Lanes.length:=by
  have:=Kz (V.laneOK h).next k hk
  omega
end
/-- The lanes in which a lane goes on. -/
def nextOf (m:Map)(a:Nat):List Int:=((m.Lanes[a]?).map (·.Next)).getD []
theorem ValR.nextOf {m:Map}(V:ValR m){a:Nat}{k:Int}(hk:k∈Roadsz.nextOf m a):(a:Int)<k∧k<m.Lanes.length:=by
  unfold Roadsz.nextOf at hk
  cases h:m.Lanes[a]? with
  |none=>rw [h]at hk;cases hk
  |some l=>rw [h]at hk;exact V.next h hk
def YL (m:Map)(b:Int):Nat→Nat→Bool
  |0,_=>false
  |n+1,a=>(nextOf m a).any fun k=>k==b||YL m b n k.toNat
/-- Does a lane lead to another one? -/
def gT (m:Map)(a:Nat)(b:Int):Bool:=YL m b m.Lanes.length a
/-- What is known of the sets of the lanes from a number on. -/
structure Reach (m:Map)(i:Nat)(l:List Nat):Prop where
  len:l.length=12
  small: ∀(a x:Nat),l[a]? =some x→x<2^32
  zero: ∀(a:Nat),a<i→l[a]? =some 0
  bits: ∀(a x:Nat),i≤a→a<m.Lanes.length→l[a]? =some x→∀b:Nat,x.testBit b=gT m a (b:Int)
theorem Reach.get {m:Map}{i:Nat}{l:List Nat}(R:Reach m i l){a:Nat}(h:a<12): ∃x,l[a]? =some x∧x<2^32:=by
  have:=R.len
  exact ⟨l[a],lG (by omega),R.small a _ (lG (by omega))⟩
structure ZoneOK (m:Map)(z:Zone):Prop where
  two:2≤z.Parts.length
  six:z.Parts.length≤6
  sig:0≤z.Signal_∧z.Signal_≤m.Signals.length
  rise:Cr m.Lanes.length 0 (z.Parts.map (·.Lane_))=true
  part: ∀p∈z.Parts,0≤p.From∧p.From<p.To∧p.To≤Gx m p.Lane_∧0≤p.Rank∧p.Rank≤100
theorem PZ {m:Map}{i:Nat}{z:Zone}(h:zoneE m i z=none):ZoneOK m z:=by
  unfold zoneE at h
  split at h
  ·cases h
  ·rename_i h1
   split at h
   ·cases h
   ·rename_i h2
    split at h
    ·cases h
    ·rename_i h3
     split at h
     ·cases h
     ·rename_i h4
      split at h
      ·cases h
      ·rename_i h5
       refine ⟨by omega,by omega,by omega,by simpa using h4,fun p hp=> ?_⟩
       have:=List.any_eq_false.1 (bJ.2 h5) p hp
       simp only [Rw,bF,l8,not_or,Int.not_lt,Int.not_le,ge_iff_le,gt_iff_lt]at this
       omega
theorem ValR.zoneOK {m:Map}(V:ValR m){z:Zone}(hz:z∈m.Zones):ZoneOK m z:=by
  obtain ⟨i,hi,rfl⟩:=List.mem_iff_getElem.1 hz
  have:=firstE_none.1 V.zoneE i _ (lG hi)
  exact PZ this
theorem ZoneOK.lane {m:Map}{z:Zone}(O:ZoneOK m z){p:Part}(hp:p∈z.Parts):0≤p.Lane_∧p.Lane_<m.Lanes.length:=Kz O.rise p.Lane_ (List.mem_map.2 ⟨p,hp,rfl⟩)
def BQ (m:Map):Bool:= !(decide (m.Lanes.length>14)||decide (m.Zones.length>14)||decide (m.Signals.length>6)||decide (m.Works.length>10))&& !(m.Lanes.any fun l=>decide (l.Curve_.Pts.length>18)||decide (l.Next.length>5))&& !(m.Zones.any fun z=>decide (z.Parts.length>8))&& !(m.Signals.any fun s=>decide (s.Phases.length>8)||s.Phases.any fun p=>decide (p.Green.length>14))
theorem NF (m:Map):Pu m=some (BQ m):=by
  unfold Pu BQ
  by_cases h:m.Lanes.length>14∨m.Zones.length>14∨m.Signals.length>6∨m.Works.length>10
  ·rw [show (((decide ((m.Lanes.length:Int)>14))||(decide ((m.Zones.length:Int)>14))||(decide ((m.Signals.length:Int)>6)))||(decide ((m.Works.length:Int)>10)))=true by simp;omega,show ((((decide (m.Lanes.length>14))||(decide (m.Zones.length>14)))||(decide (m.Signals.length>6)))||(decide (m.Works.length>10)))=true by simp;omega]
   rfl
  ·rw [show (((decide ((m.Lanes.length:Int)>14))||(decide ((m.Zones.length:Int)>14))||(decide ((m.Signals.length:Int)>6)))||(decide ((m.Works.length:Int)>10)))=false by simp;omega,show ((((decide (m.Lanes.length>14))||(decide (m.Zones.length>14)))||(decide (m.Signals.length>6)))||(decide (m.Works.length>10)))=false by simp;omega,bA]
   rw [AD m.Lanes (fun l=>decide (l.Curve_.Pts.length>18)||decide (l.Next.length>5)) false (fun i l hl=>by
    have hi:=F5 hl
    unfold Ln
    rw [N6 hi,D5 hl,l9,lA,H7 hi (by omega)]
    by_cases h1:l.Curve_.Pts.length>18
    ·rw [show decide ((l.Curve_.Pts.length:Int)>18)=true from l6 (by omega),show decide (l.Curve_.Pts.length>18)=true from l6 h1];rfl
    ·rw [show decide ((l.Curve_.Pts.length:Int)>18)=false from l7 (by omega),show decide (l.Curve_.Pts.length>18)=false from l7 h1]
     simp only [bH,l9,lA,bI]
     by_cases h2:l.Next.length>5
     ·rw [show decide ((l.Next.length:Int)>5)=true from l6 (by omega),show decide (l.Next.length>5)=true from l6 h2];rfl
     ·rw [show decide ((l.Next.length:Int)>5)=false from l7 (by omega),show decide (l.Next.length>5)=false from l7 h2];rfl) (by unfold Ln;rw [L4];rfl)]
   cases m.Lanes.any fun l=>decide (l.Curve_.Pts.length>18)||decide (l.Next.length>5)
   ·simp only [Bool.false_eq_true,if_false,thenS,bH,bD]
    rw [AD m.Zones (fun z=>decide (z.Parts.length>8)) false (fun i z hz=>by
     have hi:=F5 hz
     unfold Lm
     rw [N6 hi,D5 hz,l9,lA,H7 hi (by omega)]
     by_cases h1:z.Parts.length>8
     ·rw [show decide ((z.Parts.length:Int)>8)=true from l6 (by omega),show decide (z.Parts.length>8)=true from l6 h1];rfl
     ·rw [show decide ((z.Parts.length:Int)>8)=false from l7 (by omega),show decide (z.Parts.length>8)=false from l7 h1];rfl) (by unfold Lm;rw [L4];rfl)]
    cases m.Zones.any fun z=>decide (z.Parts.length>8)
    ·simp only [Bool.false_eq_true,if_false,bH,bD]
     rw [AD m.Signals (fun s=>decide (s.Phases.length>8)||s.Phases.any fun p=>decide (p.Green.length>14)) false (fun i s hs=>by
      have hi:=F5 hs
      unfold Ll
      rw [N6 hi,D5 hs,l9,lA,H7 hi (by omega)]
      by_cases h1:s.Phases.length>8
      ·rw [show decide ((s.Phases.length:Int)>8)=true from l6 (by omega),show decide (s.Phases.length>8)=true from l6 h1];rfl
      ·rw [show decide ((s.Phases.length:Int)>8)=false from l7 (by omega),show decide (s.Phases.length>8)=false from l7 h1,bA,bI]
       rw [AD s.Phases (fun p=>decide (p.Green.length>14)) false (fun j p hp=>by
        have hj:=F5 hp
        unfold Lk
        rw [D5 hs,lA,N6 hj,l9,lA,D5 hp,lA,H7 hj (by omega)]
        by_cases h1:p.Green.length>14
        ·rw [show decide ((p.Green.length:Int)>14)=true from l6 (by omega),show decide (p.Green.length>14)=true from l6 h1];rfl
        ·rw [show decide ((p.Green.length:Int)>14)=false from l7 (by omega),show decide (p.Green.length>14)=false from l7 h1];rfl) (by unfold Lk;rw [D5 hs,lA,L4];rfl)]
       cases s.Phases.any fun p=>decide (p.Green.length>14)<;>rfl) (by unfold Ll;rw [L4];rfl)]
     cases m.Signals.any fun s=>decide (s.Phases.length>8)||s.Phases.any fun p=>decide (p.Green.length>14)<;>rfl
    ·rfl
   ·rfl
theorem QA {m:Map}(h:BQ m=true):BearM m:=by
  unfold BQ at h
  simp only [bE,Bool.not_eq_true',Bool.or_eq_false_iff,bL,List.any_eq_false,bF,l8,not_or,Nat.not_lt,gt_iff_lt,List.any_eq_true,not_exists,not_and]at h
  obtain ⟨⟨⟨⟨⟨⟨h1,h2⟩,h3⟩,h4⟩,h5⟩,h6⟩,h7⟩:=h
  refine ⟨⟨by omega,fun l hl=> ?_⟩,⟨by omega,fun s hs=>⟨?_,fun p hp=> ?_⟩⟩,⟨by omega,fun z hz=> ?_⟩,⟨by omega⟩⟩
  ·have:=h5 l hl;omega
  ·have:=(h7 s hs).1;omega
  ·have:=(h7 s hs).2 p hp;omega
  ·have:=h6 z hz;omega
theorem YM:Gg=some true:=law03_awake_le _ (by decide+kernel)
noncomputable def cY (p q:Spot):Int:=rt (M0 (P5 p q) (P5 p q))
theorem Good.inv {last:Option CurveVector}{p q:Spot}{r:List Spot}(h:Good last (p::q::r)):cY p q*cY p q=M0 (P5 p q) (P5 p q)∧1000≤cY p q∧cY p q≤1048576∧(∀u,last=some u→0<M0 u (P5 p q))∧Good (some (P5 p q)) (q::r):=by
  cases h with|cons _ _ _ _ h1 h2 h3 h4 h=>exact ⟨h1,h2,h3,h4,h⟩
def gU (c:CurveCorridor):Ref01Stripe:=⟨c.piece.p,vs c.piece.v,c.piece.l,c.half,c.ends.1,c.ends.2⟩
theorem ValR.work {m:Map}(V:ValR m){w:Work}(hw:w∈m.Works):0≤w.Lane_∧w.Lane_<m.Lanes.length∧0≤w.From∧w.From≤w.To∧w.To≤Gx m w.Lane_∧0≤w.Begin∧w.Begin<w.End∧w.End≤1099511627776:=by
  obtain ⟨i,hi,rfl⟩:=List.mem_iff_getElem.1 hw
  have:=firstE_none.1 V.workE i _ (lG hi)
  unfold Roadsz.workE at this
  split at this
  ·cases this
  ·rename_i h1
   split at this
   ·cases this
   ·rename_i h2
    simp only [bF,l8,not_or,Bool.not_eq_true',Bool.not_eq_false]at h2
    omega
end Go.Abs.Roadsz
namespace Go.Abs
end Go.Abs
namespace Go.Abs.Roadsz
open Go Go.Abs
/-! ### How long lanes are -/
theorem YN: ∀(l:List Int) (s:Int),(∀x∈l,0≤x∧x≤1048576)→0≤s→s+1048576*l.length≤9000000000000000000→s≤Yj s l∧Yj s l≤s+1048576*l.length
  | [],s,_,_,_=>by simp [Yj]
  |a::r,s,h,h0,h1=>by
   have ha:=h a (by simp)
   simp only [lJ]at h1 ⊢
   rw [Yj,R8 (by omega)]
   have:=YN r (s+a) (fun x hx=>h x (by simp [hx])) (by omega) (by omega)
   omega
theorem YO: ∀{l:List Spot} {last:Option CurveVector},Good last l→∀x∈Xe l,1000≤x∧x≤1048576:=by
  intro l last h
  induction h with
  |one last p=>intro x hx;simp [Xe]at hx
  |cons last p q r h1 h2 h3 h4 h ih=>
   intro x hx
   rw [Tf,lS]at hx
   rcases hx with rfl|hx
   ·exact ⟨h2,h3⟩
   ·exact ih x hx
theorem cZ {c:Curve}(h:Cn c.Pts=0):1000≤YA c∧YA c≤16777216:=by
  have V:=checkM_zero.1 h
  unfold YA Kf
  rw [bB h]
  have h16:=V.most
  have h2:=V.two
  have hm:=YO V.good
  cases hp:c.Pts with
  |nil=>rw [hp]at h2;simp at h2
  |cons p r=>
   rw [hp]at hm h16 h2
   cases r with
   |nil=>simp at h2
   |cons q r=>
    simp only [lJ]at h16
    rw [Tf]at hm ⊢
    have ha:=hm _ (List.mem_cons_self)
    have hl:=Rv r q
    rw [Yj,R8 (by omega),Int.zero_add]
    have:=YN (Xe (q::r)) (rt (M0 (P5 p q) (P5 p q))) (fun x hx=>by have:=hm x (List.mem_cons_of_mem _ hx);omega) (by omega) (by rw [hl];omega)
    rw [hl]at this
    omega
theorem ValR.long {m:Map}(V:ValR m){k:Int}(h0:0≤k)(h1:k<m.Lanes.length):1000≤Gx m k∧Gx m k≤16777216:=by
  obtain ⟨l,e1,e2⟩:=Ww h0 h1
  unfold Gx
  rw [e1]
  exact cZ (V.laneOK e1).curve
/-! ### Routes -/
end Go.Abs.Roadsz
namespace Go.Abs
open Go
section
variable {α β σ τ:Type}
end
end Go.Abs
namespace Go.Abs.Roadsz
open Go Go.Abs
end Go.Abs.Roadsz
namespace Go.Abs
open Go
theorem IO {α:Type}: ∀(l:List α) (i:Nat) (s:List α),AB (fun _ s a=>s++ [a]) i s l=s++l
  | [],_,s=>by simp [AB]
  |a::r,i,s=>by rw [AB,IO r];simp
theorem Lx {α:Type}{l:List α}(h:l.length≤1000000):Q4 ([]:List α) l=some l:=Dx (by simp;omega)
/-- A loop that copies a list, in a state. -/
theorem CI {α S τ:Type}{F:S→Option (Stp S τ)}(pk:Nat→List α→S)(l:List α)(fin:List α→τ){S0:S}(hS:pk 0 []=S0)
    (hF: ∀(i:Nat) a (s:List α),l[i]? =some a→s.length≤i→F (pk i s)=some (.go (pk (i+1) (s++ [a])))) (h0: ∀s,F (pk l.length s)=some (.out (fin s))):loop F S0=some (fin l):=by
  have:=eO pk l (fun i s=>s.length≤i) (fun _ s a=>s++ [a]) fin hS (by simp) hF (fun i a s _ hs=>by simp;omega) (fun s _=>h0 s)
  rw [this,IO,lO]
end Go.Abs
namespace Go.Abs.Roadsz
open Go Go.Abs
theorem RR {l:List Int}(h:l.length≤1000000):Mq l=some l:=by unfold Mq;rw [Lx h];rfl
theorem QB {l:Lane}(h1:l.Curve_.Pts.length≤1000000)(h2:l.Next.length≤1000000):Jw l=some l:=by
  unfold Jw Ud
  rw [Lx h1,lA,lA,RR h2];rfl
theorem QC {z:Zone}(h:z.Parts.length≤1000000):Jx z=some z:=by unfold Jx;rw [Lx h];rfl
theorem KA {s:Signal}(h1:s.Phases.length≤1000000)(h2: ∀p∈s.Phases,p.Green.length≤1000000):Hi s=some s:=by
  unfold Hi
  rw [CI (fun i l=>(l,(i:Int))) s.Phases id (S0:=([],0)) rfl (fun i p l h hl=>by
   have hi:=F5 h
   unfold Dw
   dsimp only
   rw [N6 hi,D5 h,l9,lA,lA,RR (h2 p (lF h)),lA,Dx (by simp;omega),lA,H7 hi (by omega)]) (fun l=>by unfold Dw;rw [L4];rfl)]
  rfl
theorem dA {m:Map}(B:BearM m):Qw m=some m:=by
  have b1:=B.toBear.lanes
  have b2:=B.toBearZ.many
  have b3:=B.toBearS.many
  unfold Qw
  rw [Lx B.toBearW.many,lA]
  rw [CI (fun i l=>((i:Int),⟨m.Version,l,[],[],m.Works⟩)) m.Lanes (fun l=>⟨m.Version,l,[],[],m.Works⟩) (S0:=((0:Int),(⟨m.Version,[],[],[],m.Works⟩:Map))) rfl (fun i p l h hl=>by
   have hi:=F5 h
   obtain ⟨p1,p2⟩:=B.toBear.pts p (lF h)
   unfold Ka
   dsimp only
   rw [N6 hi,D5 h,l9,lA,QB p1 p2,lA,Dx (by simp;omega),lA,H7 hi (by omega)]) (fun l=>by unfold Ka;rw [L4];rfl),lA]
  rw [CI (fun i l=>((i:Int),⟨m.Version,m.Lanes,l,[],m.Works⟩)) m.Zones (fun l=>⟨m.Version,m.Lanes,l,[],m.Works⟩) (S0:=((0:Int),(⟨m.Version,m.Lanes,[],[],m.Works⟩:Map))) rfl (fun i p l h hl=>by
   have hi:=F5 h
   have p1:=B.toBearZ.parts p (lF h)
   unfold Jz
   dsimp only
   rw [N6 hi,D5 h,l9,lA,QC p1,lA,Dx (by simp;omega),lA,H7 hi (by omega)]) (fun l=>by unfold Jz;rw [L4];rfl),lA]
  rw [CI (fun i l=>((i:Int),⟨m.Version,m.Lanes,m.Zones,l,m.Works⟩)) m.Signals (fun l=>⟨m.Version,m.Lanes,m.Zones,l,m.Works⟩) (S0:=((0:Int),(⟨m.Version,m.Lanes,m.Zones,[],m.Works⟩:Map))) rfl (fun i p l h hl=>by
   have hi:=F5 h
   obtain ⟨p1,p2⟩:=B.toBearS.phases p (lF h)
   unfold Jy
   dsimp only
   rw [N6 hi,D5 h,l9,lA,KA p1 p2,lA,Dx (by simp;omega),lA,H7 hi (by omega)]) (fun l=>by unfold Jy;rw [L4];rfl)]
  rfl
/-! ### What is the same as itself -/
noncomputable def eqB {α:Type}(a b:α):Bool:= @decide (a=b) (Classical.propDecidable _)
theorem eqB_iff {α:Type}{a b:α}:eqB a b=true↔a=b:= @decide_eq_true_iff (a=b) (Classical.propDecidable _)
theorem YP {α:Type}{a b:α}(h:a≠b):eqB a b=false:=by
  cases q:eqB a b
  ·rfl
  ·exact absurd (eqB_iff.1 q) h
theorem DL {α:Type}: ∀(l l':List α),(!((l.zip l').any fun q=> !eqB q.1 q.2)&& (l.length==l'.length))=eqB l l'
  | [],[]=>by rw [Bool.eq_iff_iff];simp [eqB_iff]
  | [],b::r=>by rw [Bool.eq_iff_iff];simp [eqB_iff]
  |a::r,[]=>by rw [Bool.eq_iff_iff];simp [eqB_iff]
  |a::r,b::r'=>by
   have ih:=Bool.eq_iff_iff.1 (DL r r')
   rw [eqB_iff]at ih
   rw [Bool.eq_iff_iff,eqB_iff,List.cons.injEq,← ih]
   simp [eqB_iff,and_assoc]
theorem KB {α β:Type}{l:List α}{l':List β}{i:Nat}{p:α×β}(h:(l.zip l')[i]? =some p):l[i]? =some p.1∧l'[i]? =some p.2:=List.getElem?_zip_eq_some.1 h
/-- Equal length first, then element by element. -/
theorem Ul {α:Type}(l l':List α)(F:Int→Option (Stp Int (Sum Unit Bool)))(hF: ∀(i:Nat) a b,l[i]? =some a→l'[i]? =some b→F (i:Int)=some (cond (!eqB a b) (.out (.inr false)) (.go ((i+1:Nat):Int))))(h0:F (l.length:Int)=some (.out (.inl ()))):
    cond ((l.length:Int) !=(l'.length:Int)) (some false) (thenS (loop F 0) (fun _=>some true) (fun r=>some r))=some (eqB l l'):=by
  by_cases q:l.length=l'.length
  ·rw [← q,show ((l.length:Int) !=(l.length:Int))=false by simp,bA,← DL,← q]
   rw [AD (l.zip l') (fun q=> !eqB q.1 q.2) false (fun i p h=>by
    obtain ⟨h1,h2⟩:=KB h
    rw [hF i p.1 p.2 h1 h2];cases eqB p.1 p.2<;>rfl) (by rw [List.length_zip,← q,Nat.min_self];exact h0)]
   cases (l.zip l').any fun q=> !eqB q.1 q.2<;>simp [thenS]
  ·rw [show ((l.length:Int) !=(l'.length:Int))=true by rw [bne_iff_ne];omega,l9,YP (fun h=>q (by rw [h]))]
theorem KC {α:Type}(l l':List α)(F:Int→Option (Stp Int (Sum Unit Bool)))(hF: ∀(i:Nat) a b,l[i]? =some a→l'[i]? =some b→F (i:Int)=some (cond (!eqB a b) (.out (.inr false)) (.go ((i+1:Nat):Int))))(h0:F (min l.length l'.length:Nat)=some (.out (.inl ())))(G:Unit→Option Bool)(c:Bool)(hG:G ()=some (c&& (l.length==l'.length))):
    thenS (loop F 0) G (fun r=>some r)=some (c&&eqB l l'):=by
  rw [← DL]
  rw [AD (l.zip l') (fun q=> !eqB q.1 q.2) false (fun i p h=>by
      obtain ⟨h1,h2⟩:=KB h
      rw [hF i p.1 p.2 h1 h2];cases eqB p.1 p.2<;>rfl) (by rw [List.length_zip];exact h0)]
  cases (l.zip l').any fun q=> !eqB q.1 q.2
  ·simp [thenS,hG]
  ·simp [thenS]
theorem eP (a b:Int):(a !=b)= !eqB a b:=by rw [Bool.eq_iff_iff];simp [← Bool.not_eq_true,eqB_iff]
theorem YQ (a b:Spot):(a.X==b.X&& (a.Y==b.Y&&true))=eqB a b:=by
  cases a;cases b;rw [Bool.eq_iff_iff,eqB_iff];simp
theorem YR (a b:Part):(a.Lane_==b.Lane_&& (a.From==b.From&& (a.To==b.To&& (a.Rank==b.Rank&&true))))=eqB a b:=by
  cases a;cases b;rw [Bool.eq_iff_iff,eqB_iff];simp
theorem YS (a b:Work):(a.Lane_==b.Lane_&& (a.From==b.From&& (a.To==b.To&& (a.Begin==b.Begin&& (a.End==b.End&& (a.Limit==b.Limit&&true))))))=eqB a b:=by
  cases a;cases b;rw [Bool.eq_iff_iff,eqB_iff];simp
theorem RS (a b:Phase):((a.Ticks==b.Ticks)&&eqB a.Green b.Green)=eqB a b:=by
  cases a;cases b;rw [Bool.eq_iff_iff,eqB_iff];simp [eqB_iff]
theorem NG (a b:Signal):((a.Offset==b.Offset)&&eqB a.Phases b.Phases)=eqB a b:=by
  cases a;cases b;rw [Bool.eq_iff_iff,eqB_iff];simp [eqB_iff]
theorem YT (a b:Zone):((a.Signal_==b.Signal_)&&eqB a.Parts b.Parts)=eqB a b:=by
  cases a;cases b;rw [Bool.eq_iff_iff,eqB_iff];simp [eqB_iff,and_comm]
theorem RU (a b:Curve):eqB a.Pts b.Pts=eqB a b:=by
  cases a;cases b;rw [Bool.eq_iff_iff,eqB_iff];simp [eqB_iff]
theorem YU (a b:Lane):(((((a.Kind==b.Kind)&& (a.Half==b.Half))&& (a.Limit==b.Limit))&&eqB a.Curve_ b.Curve_)&&eqB a.Next b.Next)=eqB a b:=by
  cases a;cases b;rw [Bool.eq_iff_iff,eqB_iff];simp [eqB_iff]
  constructor
  ·rintro ⟨⟨⟨⟨h1,h2⟩,h3⟩,h4⟩,h5⟩;exact ⟨h1,h4,h2,h3,h5⟩
  ·rintro ⟨h1,h4,h2,h3,h5⟩;exact ⟨⟨⟨⟨h1,h2⟩,h3⟩,h4⟩,h5⟩
theorem gV {l l':List Spot}(h:l.length≤1000000):Cw l l'=some (eqB l l'):=
  Ul l l' _ (fun i a b ha hb=>by
   unfold W3
   rw [N6 (F5 ha),l9,D5 ha,D5 hb,lA,lA,YQ,H7 (F5 ha) (by omega)]
   cases eqB a b<;>rfl) (by unfold W3;rw [L4];rfl)
theorem eQ {l l':List Int}(h:l.length≤1000000):Bp l l'=some (eqB l l'):=
  Ul l l' _ (fun i a b ha hb=>by
   unfold Y4
   rw [N6 (F5 ha),l9,D5 ha,D5 hb,lA,lA,eP,H7 (F5 ha) (by omega)]
   cases eqB a b<;>rfl) (by unfold Y4;rw [L4];rfl)
theorem gX {l l':List Part}(h:l.length≤1000000):Cx l l'=some (eqB l l'):=
  Ul l l' _ (fun i a b ha hb=>by
   unfold W4
   rw [N6 (F5 ha),l9,D5 ha,D5 hb,lA,lA,YR,H7 (F5 ha) (by omega)]
   cases eqB a b<;>rfl) (by unfold W4;rw [L4];rfl)
theorem NH {a b:Lane}(h1:a.Curve_.Pts.length≤1000000)(h2:a.Next.length≤1000000):Is a b=some (eqB a b):=by
  unfold Is Uc
  rw [gV h1,eQ h2,RU,← YU a b]
  cases ((a.Kind==b.Kind)&& (a.Half==b.Half))&& (a.Limit==b.Limit)
  ·rfl
  ·cases eqB a.Curve_ b.Curve_<;>rfl
theorem NI {a b:Zone}(h:a.Parts.length≤1000000):Iu a b=some (eqB a b):=by
  unfold Iu
  rw [gX h,← YT a b]
  cases a.Signal_==b.Signal_<;>rfl
theorem KD {a b:Phase}(h:a.Green.length≤1000000):Dv a b=some (eqB a b):=by
  unfold Dv
  rw [eQ h,← RS a b]
  cases a.Ticks==b.Ticks<;>rfl
theorem HD {a b:Signal}(h:a.Phases.length≤1000000)(hg: ∀p∈a.Phases,p.Green.length≤1000000):Gb a b=some (eqB a b):=by
  unfold Gb
  have e:K0 a.Phases b.Phases=some (eqB a.Phases b.Phases):=
    Ul _ _ _ (fun i x y ha hb=>by
     unfold G5
     rw [N6 (F5 ha),l9,D5 ha,D5 hb,lA,lA,KD (hg x (lF ha)),lA,H7 (F5 ha) (by omega)]
     cases eqB x y<;>rfl) (by unfold G5;rw [L4];rfl)
  rw [e,← NG a b]
  cases a.Offset==b.Offset<;>rfl
theorem jG {i a b:Nat}(h1:i<a)(h2:i<b):((decide ((i:Int)< (a:Int)))&& (decide ((i:Int)< (b:Int))))=true:=by
  rw [l6 (by omega),l6 (by omega)];rfl
theorem gY (a b:Nat):((decide (((min a b:Nat):Int)< (a:Int)))&& (decide (((min a b:Nat):Int)< (b:Int))))=false:=by
  rcases Nat.le_total a b with h|h
  ·rw [Nat.min_eq_left h,l7 (by omega)];rfl
  ·rw [Nat.min_eq_right h,l7 (p:=(b:Int)< (b:Int)) (by omega),Bool.and_false]
theorem KE (a b:Nat):((a:Int)==(b:Int))=(a==b):=by rw [Bool.eq_iff_iff,bK,bK];omega
theorem NJ {l l':List Int}(h:l.length≤1000000):Iq l l'=some (eqB l l'):=by
  have:=KC l l' (Bx l l') (fun i a b ha hb=>by
    unfold Bx
    rw [jG (F5 ha) (F5 hb),l9,D5 ha,D5 hb,lA,lA,eP,H7 (F5 ha) (by omega)]
    cases eqB a b<;>rfl) (by unfold Bx;rw [gY];rfl) (fun _=>some ((l.length:Int)==(l'.length:Int))) true (by rw [KE];rfl)
  rw [bD]at this
  exact this
theorem TU {a b:Curve}(h:a.Pts.length≤1000000):Ub a b=some (eqB a b):=by
  rw [← RU]
  exact Ul a.Pts b.Pts _ (fun i x y ha hb=>by
    unfold Jt
    rw [N6 (F5 ha),l9,D5 ha,D5 hb,lA,lA,YQ,H7 (F5 ha) (by omega)]
    cases eqB x y<;>rfl) (by unfold Jt;rw [L4];rfl)
theorem YV {a b:Lane}(h1:a.Curve_.Pts.length≤1000000)(h2:a.Next.length≤1000000):Ir a b=some (eqB a b):=by
  unfold Ir
  rw [TU h1,NJ h2,← YU a b]
  cases ((a.Kind==b.Kind)&& (a.Half==b.Half))&& (a.Limit==b.Limit)
  ·rfl
  ·cases eqB a.Curve_ b.Curve_<;>rfl
theorem YW {a b:Zone}(h:a.Parts.length≤1000000):Ls a b=some (eqB a b):=by
  rw [← YT]
  exact KC a.Parts b.Parts (By a b) (fun i x y ha hb=>by
    unfold By
    rw [jG (F5 ha) (F5 hb),l9,D5 ha,D5 hb,lA,lA,YR,H7 (F5 ha) (by omega)]
    cases eqB x y<;>rfl) (by unfold By;rw [gY];rfl) _ _ (by rw [KE])
theorem QD {a b:Signal}(h:a.Phases.length≤1000000)(hg: ∀p∈a.Phases,p.Green.length≤1000000):Jj a b=some (eqB a b):=by
  rw [← NG]
  exact KC a.Phases b.Phases (Ak a b) (fun i x y ha hb=>by
    unfold Ak
    rw [jG (F5 ha) (F5 hb),l9,D5 ha,D5 hb,lA,lA,← RS,H7 (F5 ha) (by omega),show (x.Ticks !=y.Ticks)= !(x.Ticks==y.Ticks) from rfl]
    cases x.Ticks==y.Ticks
    ·rfl
    ·simp only [bG,bH,l9,lA,NJ (hg x (lF ha)),bD,bI]
     cases eqB x.Green y.Green<;>rfl) (by unfold Ak;rw [gY];rfl) _ _ (by rw [KE])
/-! ### The edits of one table -/
section run
variable {α S τ:Type}(pk:Int→List Edit→S)(fin:List Edit→τ)(t:Int)(put:Edit→α→Edit)(a b:List α)(B:Nat)
end run
theorem QE {l:Lane}(h1:l.Curve_.Pts.length≤1000000)(h2:l.Next.length≤1000000):Hu l=some l:=by
  unfold Hu Ue Mt Gv Bq
  rw [Lx h1,Lx h2];rfl
theorem QF {z:Zone}(h:z.Parts.length≤1000000):Hv z=some z:=by
  unfold Hv Gw
  rw [Lx h];rfl
theorem KF {s:Signal}(h1:s.Phases.length≤1000000)(h2: ∀p∈s.Phases,p.Green.length≤1000000):Eo s=some s:=by
  unfold Eo Bm
  rw [Lx h1,lA]
  have:=YE (F:=Bf s.Phases) (σ:=Unit) (fun i _=>((i:Int),s)) s.Phases (fun _ _=>True) (fun _ _ _=> .inl ()) (fun _=>s) (s0:=()) (S0:=(0,Signal.mk s.Offset s.Phases)) rfl trivial (fun i p _ h _=>by
    have hi:=F5 h
    unfold Bf Bq
    dsimp only
    rw [N6 hi,D5 h,l9,lA,Lx (h2 p (lF h)),lA,lA,H7 hi (by omega)]
    have e:JO s.Phases (i:Int) (Phase.mk p.Ticks p.Green)=s.Phases:=by
      unfold JO
      rw [bO]
      exact List.ext_getElem? fun k=>by
        rw [List.getElem?_set]
        split
        ·next q=>subst q;exact h.symm
        ·rfl
    rw [e]) (fun _ _ _ _ _ _ _=>trivial) (fun _ _=>by unfold Bf;rw [L4];rfl)
  rw [this]
  have key: ∀(l:List Phase) (i:Nat),CF (fun _ (_:Unit) (_:Phase)=>(.inl ():Sum Unit Signal)) (fun _=>s) i () l=s:=by
    intro l
    induction l with
    |nil=>intro i;rfl
    |cons a r ih=>intro i;exact ih (i+1)
  rw [key];rfl
/-! ### Copies -/
theorem jH {l:List Lane}(hl:l.length≤1000000)(h: ∀x∈l,x.Curve_.Pts.length≤1000000∧x.Next.length≤1000000):Bg l=some l:=by
  unfold Bg
  rw [CI (fun i s=>(s,(i:Int))) l id (S0:=([],0)) rfl (fun i p s hp hs=>by
   have hi:=F5 hp
   have hm:=h p (lF hp)
   unfold Y9
   dsimp only
   rw [N6 hi,D5 hp,l9,lA,QE hm.1 hm.2,lA,Dx (by simp;omega),lA,H7 hi (by omega)]) (fun s=>by unfold Y9;rw [L4];rfl)]
  rfl
theorem jI {l:List Zone}(hl:l.length≤1000000)(h: ∀x∈l,x.Parts.length≤1000000):Bh l=some l:=by
  unfold Bh
  rw [CI (fun i s=>(s,(i:Int))) l id (S0:=([],0)) rfl (fun i p s hp hs=>by
   have hi:=F5 hp
   unfold Z0
   dsimp only
   rw [N6 hi,D5 hp,l9,lA,QF (h p (lF hp)),lA,Dx (by simp;omega),lA,H7 hi (by omega)]) (fun s=>by unfold Z0;rw [L4];rfl)]
  rfl
theorem jJ {l:List Signal}(hl:l.length≤1000000)(h: ∀x∈l,x.Phases.length≤1000000∧∀p∈x.Phases,p.Green.length≤1000000):X7 l=some l:=by
  unfold X7
  rw [CI (fun i s=>(s,(i:Int))) l id (S0:=([],0)) rfl (fun i p s hp hs=>by
   have hi:=F5 hp
   have hm:=h p (lF hp)
   unfold W1
   dsimp only
   rw [N6 hi,D5 hp,l9,lA,KF hm.1 hm.2,lA,Dx (by simp;omega),lA,H7 hi (by omega)]) (fun s=>by unfold W1;rw [L4];rfl)]
  rfl
theorem jK {l:List Work}(hl:l.length≤1000000):Bi l=some l:=by
  unfold Bi
  rw [CI (fun i s=>(s,(i:Int))) l id (S0:=([],0)) rfl (fun i p s hp hs=>by
   have hi:=F5 hp
   unfold Z1 Kb
   dsimp only
   rw [N6 hi,D5 hp,l9,lA,lA,Dx (by simp;omega),lA,H7 hi (by omega)]) (fun s=>by unfold Z1;rw [L4];rfl)]
  rfl
theorem HE {m:Map}(B:BearM m):Xp m=some m:=by
  unfold Xp
  rw [jH B.toBear.lanes B.toBear.pts,lA,jI B.toBearZ.many B.toBearZ.parts,lA,jJ B.toBearS.many B.toBearS.phases,lA,jK B.toBearW.many];rfl
/-! ### One edit -/
def Sp:Map:=Map.mk 0 [] [] [] []
theorem QG:BearM Sp:=⟨⟨by simp [Sp],by simp [Sp]⟩,⟨by simp [Sp],by simp [Sp]⟩,⟨by simp [Sp],by simp [Sp]⟩,⟨by simp [Sp]⟩⟩
/-! ### The kit's maps fit -/
section
variable {α:Type}{t:Int}{put:Edit→α→Edit}{A:List α→Map}
end
end Go.Abs.Roadsz
/-! Numbers as eight bytes, and back; strings as rows of bytes. -/
namespace Go.Abs
open Go
def Po (L:List Int):Prop:= ∀b∈L,0≤b∧b<256
theorem Rx:Po []:=fun _ h=>by cases h
theorem FU {b:Int}{L:List Int}:Po (b::L)↔ (0≤b∧b<256)∧Po L:=List.forall_mem_cons
theorem isB_append {L M:List Int}:Po (L++M)↔Po L∧Po M:=List.forall_mem_append
theorem FV {L:List Int}(h:Po L)(n:Nat):Po (L.drop n):=fun b hb=>h b (List.mem_of_mem_drop hb)
theorem Wk {L:List Int}(h:Po L)(n:Nat):Po (L.take n):=fun b hb=>h b (List.mem_of_mem_take hb)
/-- A byte of a number. -/
def V3 (n:Int)(k:Nat):Int:=n % 18446744073709551616 / 2^k % 256
def AL (n:Int):List Int:= [V3 n 56,V3 n 48,V3 n 40,V3 n 32,V3 n 24,V3 n 16,V3 n 8,V3 n 0]
theorem AF (n:Int):(AL n).length=8:=rfl
theorem YX (n:Int)(k:Nat):0≤V3 n k∧V3 n k<256:=by
  unfold V3
  omega
theorem RW (n:Int):Po (AL n):=by
  intro b hb
  simp only [AL,lS,List.not_mem_nil,or_false]at hb
  rcases hb with h|h|h|h|h|h|h|h<;>rw [h]<;>exact YX _ _
def dB (L:List Int):Int:=L.foldl (fun a b=>a*256+b) 0
def eR (L:List Int):Int:=K2 (dB L)
theorem YY {L:List Int}(h:L.length=8): ∃a b c d e f g i,L= [a,b,c,d,e,f,g,i]:=by
  rcases L with _|⟨a,_|⟨b,_|⟨c,_|⟨d,_|⟨e,_|⟨f,_|⟨g,_|⟨i,_|⟨j,r⟩⟩⟩⟩⟩⟩⟩⟩⟩<;>simp at h
  exact ⟨a,b,c,d,e,f,g,i,rfl⟩
theorem gZ {L:List Int}(h:L.length=8)(hb:Po L):0≤dB L∧dB L<18446744073709551616:=by
  obtain ⟨a,b,c,d,e,f,g,i,rfl⟩:=YY h
  simp only [FU]at hb
  obtain ⟨h1,h2,h3,h4,h5,h6,h7,h8,_⟩:=hb
  simp only [dB,List.foldl_cons,List.foldl_nil]
  omega
theorem NK (n:Int):K2 n % 18446744073709551616=n % 18446744073709551616:=by
  have h:K2 n=IntKind.wrap .i64 n:=rfl
  rw [h]
  unfold IntKind.wrap
  simp only [IntKind.bits,IntKind.signed,bD,l8,show (2:Int)^64=18446744073709551616 from rfl]
  split<;>omega
theorem dC {L:List Int}(h:L.length=8)(hb:Po L):AL (dB L)=L:=by
  obtain ⟨a,b,c,d,e,f,g,i,rfl⟩:=YY h
  have hbd:=gZ h hb
  simp only [FU]at hb
  obtain ⟨h1,h2,h3,h4,h5,h6,h7,h8,_⟩:=hb
  unfold AL V3
  rw [Int.emod_eq_of_lt hbd.1 hbd.2]
  simp only [dB,List.foldl_cons,List.foldl_nil]
  simp only [List.cons.injEq,and_true]
  refine ⟨?_,?_,?_,?_,?_,?_,?_,?_⟩<;>omega
theorem dD (n:Int):AL (K2 n)=AL n:=by unfold AL V3;simp only [NK]
theorem dE {L:List Int}(h:L.length=8)(hb:Po L):AL (eR L)=L:=by rw [eR,dD,dC h hb]
theorem dF (n:Int):dB (AL n)=n % 18446744073709551616:=by
  simp only [AL,V3,dB,List.foldl_cons,List.foldl_nil]
  have h0:0≤n % 18446744073709551616∧n % 18446744073709551616<18446744073709551616:=by omega
  generalize n % 18446744073709551616=u at h0
  omega
theorem dG {n:Int}(h:G6 n):eR (AL n)=n:=by
  rw [eR,dF]
  have e:K2 (n % 18446744073709551616) % 18446744073709551616=n % 18446744073709551616:=by rw [NK];omega
  have:=HW (n % 18446744073709551616)
  unfold G6 at h
  omega
theorem IP (L:List Int):G6 (eR L):=HW _
/-! ### Strings -/
theorem Aq (L:List Int):(H3 L).size=L.length:=by unfold H3 ByteArray.size;simp
theorem Iv (L:List Int):(H3 L).data.toList=L.map fun n=>UInt8.ofNat n.toNat:=by simp [H3]
theorem QH (s:ByteArray):Po (Av s):=by
  intro b hb
  unfold Av at hb
  obtain ⟨x,_,rfl⟩:=List.mem_map.1 hb
  have:=x.toNat_lt
  omega
theorem Kc {L:List Int}(h:Po L):Av (H3 L)=L:=by
  unfold Av
  rw [Iv,List.map_map]
  conv=>rhs;rw [← List.map_id L]
  refine List.map_congr_left fun b hb=> ?_
  have:=h b hb
  simp only [Function.comp,UInt8.toNat_ofNat',id]
  omega
theorem Wx {a b:ByteArray}(h:a.data.toList=b.data.toList):a=b:=by
  cases a;cases b
  congr
  exact Array.toList_inj.1 h
theorem HF (s:ByteArray):H3 (Av s)=s:=by
  refine Wx ?_
  rw [Iv]
  unfold Av
  rw [List.map_map]
  conv=>rhs;rw [← List.map_id s.data.toList]
  refine List.map_congr_left fun b _=> ?_
  simp [Function.comp]
theorem HG (L M:List Int):H3 L++H3 M=H3 (L++M):=by
  refine Wx ?_
  rw [ByteArray.data_append,Array.toList_append,Iv,Iv,Iv,List.map_append]
theorem FW (L:List Int)(i j:Nat):(H3 L).extract i j=H3 ((L.take j).drop i):=by
  refine Wx ?_
  rw [ByteArray.data_extract,Array.toList_extract,Iv,Iv,List.extract_eq_take_drop,List.map_drop,List.map_take,List.drop_take]
theorem Ym {L M:List Int}(h1:Po L)(h2:Po M)(h:H3 L=H3 M):L=M:=by rw [← Kc h1,← Kc h2,h]
theorem YZ {L:List Int}(h:Po L)(i:Int):XS (H3 L) i=F0 L i:=by
  unfold XS F0
  split
  ·have:((H3 L).data.toList[i.toNat]?).map (fun b=>(b.toNat:Int))=(Av (H3 L))[i.toNat]?:=by unfold Av;rw [lI]
   rw [this,Kc h]
  ·rfl
theorem Fc {L M:List Int}(h:L.length+M.length≤1000000000):Uw (H3 L) (H3 M)=some (H3 (L++M)):=by
  unfold Uw
  rw [bB (by rw [Aq,Aq];exact h),HG]
theorem Ra {L:List Int}{i j:Int}(h:0≤i∧i≤j∧j≤L.length):BC (H3 L) i j=some (H3 ((L.take j.toNat).drop i.toNat)):=by
  unfold BC
  rw [bB (by rw [Aq];exact h),FW]
theorem toList_eq {L M:List Int}(h1:Po L)(h2:Po M):((H3 L).toList==(H3 M).toList)=(L==M):=by
  have e: ∀a b:ByteArray,(a.toList==b.toList)=(a.data.toList==b.data.toList):=fun a b=>by rw [ByteArray.toList_eq,ByteArray.toList_eq]
  rw [e,Bool.eq_iff_iff,bK,bK]
  constructor
  ·intro h;exact Ym h1 h2 (Wx h)
  ·rintro rfl;rfl
end Go.Abs
/-! Writing and reading numbers as eight bytes: the loops. -/
namespace Go.Abs
open Go
def W2 (ns:List Int):List Int:=ns.flatMap AL
theorem Kd:W2 []= []:=rfl
theorem Bz (n:Int)(r:List Int):W2 (n::r)=AL n++W2 r:=rfl
theorem T7 (a b:List Int):W2 (a++b)=W2 a++W2 b:=List.flatMap_append
theorem H9: ∀(ns:List Int),(W2 ns).length=8*ns.length
  | []=>rfl
  |n::r=>by rw [Bz,lK,H9 r,AF,lJ];omega
theorem Rb: ∀(ns:List Int),Po (W2 ns)
  | []=>Rx
  |n::r=>isB_append.2 ⟨RW n,Rb r⟩
theorem T0 {α:Type}(l:List α)(f:α→List Int):W2 (l.flatMap f)=l.flatMap fun a=>W2 (f a):=by
  induction l with
  |nil=>rfl
  |cons a r ih=>rw [l4,l4,T7,ih]
/-- A loop over a list that writes something for each element. -/
theorem Ly {α σ τ:Type}(l:List α)(enc:α→List Int)(mk:Int→List Int→σ)(fin:List Int→τ)(F:σ→Option (Stp σ τ))
    (hF: ∀(i:Nat) a b,l[i]? =some a→b.length+ (enc a).length≤1000000000→F (mk i b)=some (.go (mk ((i+1:Nat):Int) (b++enc a)))) (h0: ∀b,F (mk l.length b)=some (.out (fin b)))
    (b:List Int) (hb:b.length+ (l.flatMap enc).length≤1000000000):loop F (mk 0 b)=some (fin (b++l.flatMap enc)):=by
  have key: ∀(r:List α) (i:Nat) (b:List Int),l.drop i=r→i≤l.length→b.length+ (r.flatMap enc).length≤1000000000→loop F (mk i b)=some (fin (b++r.flatMap enc)):=by
    intro r
    induction r with
    |nil=>
     intro i b hd hi _
     have:i=l.length:=by have:=Es hd;omega
     rw [this,K3 (h0 b),List.flatMap_nil,lN]
    |cons a r ih=>
     intro i b hd hi hb
     rw [l4,lK]at hb
     have hlt:=Bv hd
     have ha:l[i]? =some a:=by have:=congrArg (fun z=>z[0]?) hd;simpa using this
     rw [Y5 (hF i a b ha (by omega)),ih (i+1) _ (W9 hd) hlt (by rw [lK];omega),lM,l4]
  exact key l 0 b rfl (bQ _) hb
theorem Wl (n:Int):IntKind.wrap .u64 n=n % 18446744073709551616:=by
  unfold IntKind.wrap
  simp only [IntKind.bits,IntKind.signed,Bool.false_and,Bool.false_eq_true,if_false]
  rfl
theorem dH (n:Int):IntKind.wrap .u8 n=n % 256:=by
  unfold IntKind.wrap
  simp only [IntKind.bits,IntKind.signed,Bool.false_and,Bool.false_eq_true,if_false]
  rfl
theorem NL (n:Int)(k:Nat)(hk:k<64): ∃v,Rh .u64 (IntKind.wrap .u64 n) (IntKind.wrap .u64 (k:Int))=some v∧IntKind.wrap .u8 v=V3 n k:=by
  have e:IntKind.wrap .u64 (k:Int)=(k:Int):=by rw [Wl];omega
  refine ⟨_,by unfold Rh;rw [e,bC (by omega)],?_⟩
  rw [dH,Wl]
  unfold V3
  simp only [bO,IntKind.bits,Nat.min_eq_left (Nat.le_of_lt hk)]
  rw [Int.fdiv_eq_ediv_of_nonneg _ (by exact Int.le_of_lt (Int.pow_pos (by omega)))]
/-- Eight bytes, from the greatest down. -/
theorem IQ {σ τ:Type}(n:Int)(mk:Int→List Int→σ)(fin:List Int→τ)(F:σ→Option (Stp σ τ))(c:Int)(d:Nat)
    (hF: ∀(k:Nat) b,k<8→b.length<1000000000→F (mk (c* (k:Int)) b)=some (.go (mk (c* ((k:Int) - 1)) (b++ [V3 n (8*k)])))) (h0: ∀b,F (mk (c* (-1)) b)=some (.out (fin b))) (b:List Int) (hb:b.length+8≤1000000000):
    loop F (mk (c*7) b)=some (fin (b++AL n)):=by
  have s: ∀(k:Nat) (b:List Int),k<8→b.length<1000000000→loop F (mk (c* (k:Int)) b)=loop F (mk (c* ((k:Int) - 1)) (b++ [V3 n (8*k)])):=fun k b h1 h2=>Y5 (hF k b h1 h2)
  have l1: ∀(b:List Int) x,(b++ [x]).length=b.length+1:=fun b x=>by simp
  have a7:=s 7 b (by omega) (by omega)
  have a6:=s 6 (b++ [V3 n 56]) (by omega) (by rw [l1];omega)
  have a5:=s 5 (b++ [V3 n 56]++ [V3 n 48]) (by omega) (by rw [l1,l1];omega)
  have a4:=s 4 (b++ [V3 n 56]++ [V3 n 48]++ [V3 n 40]) (by omega) (by rw [l1,l1,l1];omega)
  have a3:=s 3 (b++ [V3 n 56]++ [V3 n 48]++ [V3 n 40]++ [V3 n 32]) (by omega) (by rw [l1,l1,l1,l1];omega)
  have a2:=s 2 (b++ [V3 n 56]++ [V3 n 48]++ [V3 n 40]++ [V3 n 32]++ [V3 n 24]) (by omega) (by rw [l1,l1,l1,l1,l1];omega)
  have a1:=s 1 (b++ [V3 n 56]++ [V3 n 48]++ [V3 n 40]++ [V3 n 32]++ [V3 n 24]++ [V3 n 16]) (by omega) (by rw [l1,l1,l1,l1,l1,l1];omega)
  have a0:=s 0 (b++ [V3 n 56]++ [V3 n 48]++ [V3 n 40]++ [V3 n 32]++ [V3 n 24]++ [V3 n 16]++ [V3 n 8]) (by omega) (by rw [l1,l1,l1,l1,l1,l1,l1];omega)
  refine a7.trans (a6.trans (a5.trans (a4.trans (a3.trans (a2.trans (a1.trans (a0.trans ?_)))))))
  have e:((0:Nat):Int) - 1= -1:=by omega
  rw [e,K3 (h0 _)]
  simp [AL]
/-- A byte more. -/
theorem NM {a b:Int}(ha:0≤a∧a<72057594037927936)(hb:0≤b∧b<256):
    IntKind.wrap .u64 (((BitVec.ofInt (IntKind.bits .u64) (IntKind.wrap .u64 (a*2^ (min (8:Int).toNat (IntKind.bits .u64))))|||(BitVec.ofInt (IntKind.bits .u64) (IntKind.wrap .u64 b))).toNat:Nat):Int)=a*256+b:=by
  obtain ⟨x,rfl⟩:=Int.eq_ofNat_of_zero_le ha.1
  obtain ⟨y,rfl⟩:=Int.eq_ofNat_of_zero_le hb.1
  have e1:IntKind.wrap .u64 ((x:Int)*2^ (min (8:Int).toNat (IntKind.bits .u64)))=((x*256:Nat):Int):=by
    rw [Wl,show (2:Int)^ (min (8:Int).toNat (IntKind.bits .u64))=256 from rfl];omega
  have e2:IntKind.wrap .u64 (y:Int)=(y:Int):=by rw [Wl];omega
  rw [e1,e2,BitVec.ofInt_natCast,BitVec.ofInt_natCast,BitVec.toNat_or,BitVec.toNat_ofNat,BitVec.toNat_ofNat]
  have h64:2^IntKind.bits .u64=18446744073709551616:=rfl
  rw [h64,Nat.mod_eq_of_lt (by omega),Nat.mod_eq_of_lt (by omega)]
  have:=Nat.two_pow_add_eq_or_of_lt (i:=8) (b:=y) (by omega) x
  rw [show x*256=2^8*x by omega,← this,Wl]
  omega
/-- Eight bytes are read. -/
theorem NN {L:List Int}(h8:L.length=8)(hB:Po L)(F:Int×Int→Option (Stp (Int×Int) Int))
    (hF: ∀(i:Nat) a b,i<8→L[i]? =some b→0≤b∧b<256→0≤a∧a<72057594037927936→F (a,i)=some (.go (a*256+b,((i+1:Nat):Int)))) (h0: ∀a,F (a,8)=some (.out a)):loop F (0,0)=some (dB L):=by
  obtain ⟨b0,b1,b2,b3,b4,b5,b6,b7,rfl⟩:=YY h8
  simp only [FU]at hB
  obtain ⟨g0,g1,g2,g3,g4,g5,g6,g7,_⟩:=hB
  have s: ∀(i:Nat) a b,i<8→ [b0,b1,b2,b3,b4,b5,b6,b7][i]? =some b→0≤b∧b<256→0≤a∧a<72057594037927936→loop F (a,(i:Int))=loop F (a*256+b,((i+1:Nat):Int)):=fun i a b h1 h2 h3 h4=>Y5 (hF i a b h1 h2 h3 h4)
  refine (s 0 0 b0 (by omega) rfl g0 (by omega)).trans ((s 1 _ b1 (by omega) rfl g1 (by omega)).trans ((s 2 _ b2 (by omega) rfl g2 (by omega)).trans ((s 3 _ b3 (by omega) rfl g3 (by omega)).trans ((s 4 _ b4 (by omega) rfl g4 (by omega)).trans ((s 5 _ b5 (by omega) rfl g5 (by omega)).trans
    ((s 6 _ b6 (by omega) rfl g6 (by omega)).trans ((s 7 _ b7 (by omega) rfl g7 (by omega)).trans ?_)))))))
  exact K3 (h0 _)
end Go.Abs
/-! Readers of numbers: what they read of bytes that are right, and that they end on all bytes. -/
namespace Go.Abs
open Go
/-- rs: the reader's state, by the bytes that are left and a mark. inv: nothing that is read without a mark is written in another way. -/
structure PR {R α:Type}(rs:List Int→Bool→R)(inv:Bool)(f:R→Option (α×R))(enc:α→List Int)(ok Q:α→Prop):Prop where
  tot: ∀L b,Po L→L.length≤100000→∃a L' b',f (rs L b)=some (a,rs L' b')∧Po L'∧L'.length≤L.length∧(L'.length<L.length∨b'=true)∧(b=true→b'=true)∧Q a∧(inv=true→b'=false→L=W2 (enc a)++L'∧ok a)
  fwd: ∀a L,ok a→Po L→f (rs (W2 (enc a)++L) false)=some (a,rs L false)
section
variable {R α β:Type}{rs:List Int→Bool→R}{inv:Bool}
def Q3 (f:R→Option (α×R))(g:R→Option (β×R))(r:R):Option ((α×β)×R):=(f r).bind fun v=>(g v.2).bind fun w=>some ((v.1,w.1),w.2)
def Gc (φ:α→β)(f:R→Option (α×R))(r:R):Option (β×R):=(f r).bind fun v=>some (φ v.1,v.2)
def FX (f:R→Option (α×R)):Nat→R→Option (List α×R)
  |0,r=>some ([],r)
  |n+1,r=>(f r).bind fun v=>(FX f n v.2).bind fun w=>some (v.1::w.1,w.2)
def Ke (c:R→Option (Int×R))(f:R→Option (α×R))(r:R):Option (List α×R):=(c r).bind fun v=>FX f v.1.toNat v.2
theorem KG {b b':Bool}(h:b=true→b'=true)(h':b'=false):b=false:=by cases b<;>simp_all
theorem PR.pair {f:R→Option (α×R)}{g:R→Option (β×R)}{ef:α→List Int}{eg:β→List Int}{okf Qf:α→Prop}{okg Qg:β→Prop}(hf:PR rs inv f ef okf Qf)(hg:PR rs inv g eg okg Qg):
    PR rs inv (Q3 f g) (fun p=>ef p.1++eg p.2) (fun p=>okf p.1∧okg p.2) (fun p=>Qf p.1∧Qg p.2) where
  tot L b hB hL:=by
    obtain ⟨a,L1,b1,e1,B1,l1,s1,m1,q1,i1⟩:=hf.tot L b hB hL
    obtain ⟨c,L2,b2,e2,B2,l2,s2,m2,q2,i2⟩:=hg.tot L1 b1 B1 (by omega)
    refine ⟨(a,c),L2,b2,by unfold Q3;rw [e1,lA];(try dsimp only);rw [e2];rfl,B2,by omega,?_,fun h=>m2 (m1 h),⟨q1,q2⟩,fun hi hb=> ?_⟩
    ·rcases s2 with h|h
     ·exact .inl (by omega)
     ·exact .inr h
    ·obtain ⟨h2,o2⟩:=i2 hi hb
     obtain ⟨h1,o1⟩:=i1 hi (KG m2 hb)
     exact ⟨by rw [h1,h2,T7,lM],o1,o2⟩
  fwd p L ho hB:=by
    have hB2:Po (W2 (eg p.2)++L):=isB_append.2 ⟨Rb _,hB⟩
    unfold Q3
    try dsimp only
    rw [T7,lM,hf.fwd p.1 _ ho.1 hB2,lA]
    try dsimp only
    rw [hg.fwd p.2 L ho.2 hB];rfl
theorem PR.map {f:R→Option (α×R)}{ef:α→List Int}{okf Qf:α→Prop}(hf:PR rs inv f ef okf Qf)(φ:α→β)(ψ:β→α){ok Q:β→Prop}(h1: ∀b,φ (ψ b)=b)(h2: ∀a,ψ (φ a)=a)(ho: ∀b,ok b→okf (ψ b))(ho': ∀a,okf a→ok (φ a))(hq: ∀a,Qf a→Q (φ a)):
    PR rs inv (Gc φ f) (fun b=>ef (ψ b)) ok Q where
  tot L b hB hL:=by
    obtain ⟨a,L1,b1,e1,B1,l1,s1,m1,q1,i1⟩:=hf.tot L b hB hL
    refine ⟨φ a,L1,b1,by unfold Gc;rw [e1];rfl,B1,l1,s1,m1,hq a q1,fun hi hb=> ?_⟩
    obtain ⟨h,o⟩:=i1 hi hb
    exact ⟨by rw [h2];exact h,ho' a o⟩
  fwd c L hc hB:=by
    unfold Gc
    rw [hf.fwd (ψ c) L (ho c hc) hB,lA]
    try dsimp only
    rw [h1]
theorem PR.weak {f:R→Option (α×R)}{ef ef':α→List Int}{ok ok' Q Q':α→Prop}(h:PR rs inv f ef ok Q)(he: ∀a,ef' a=ef a)(h1: ∀a,ok' a→ok a)(h1': ∀a,ok a→ok' a)(h2: ∀a,Q a→Q' a):PR rs inv f ef' ok' Q' where
  tot L b hB hL:=by
    obtain ⟨a,L1,b1,e1,B1,l1,s1,m1,q1,i1⟩:=h.tot L b hB hL
    exact ⟨a,L1,b1,e1,B1,l1,s1,m1,h2 a q1,fun hi hb=>⟨by rw [he];exact (i1 hi hb).1,h1' a (i1 hi hb).2⟩⟩
  fwd a L ha hB:=by rw [he];exact h.fwd a L (h1 a ha) hB
theorem PR.no {f:R→Option (α×R)}{ef:α→List Int}{ok Q:α→Prop}(h:PR rs true f ef ok Q):PR rs false f ef ok Q where
  tot L b hB hL:=by
    obtain ⟨a,L1,b1,e1,B1,l1,s1,m1,q1,i1⟩:=h.tot L b hB hL
    exact ⟨a,L1,b1,e1,B1,l1,s1,m1,q1,nofun⟩
  fwd:=h.fwd
theorem RX {f:R→Option (α×R)}{ef:α→List Int}{ok Q:α→Prop}(h:PR rs inv f ef ok Q): ∀(n:Nat) (L:List Int) (b:Bool),Po L→L.length≤100000→
    ∃l L' b',FX f n (rs L b)=some (l,rs L' b')∧Po L'∧L'.length≤L.length∧(b=true→b'=true)∧l.length=n∧(∀a∈l,Q a)∧(inv=true→b'=false→L=W2 (l.flatMap ef)++L'∧∀a∈l,ok a)
  |0,L,b,hB,_=>⟨[],L,b,rfl,hB,bP _,id,rfl,nofun,fun _ _=>⟨rfl,nofun⟩⟩
  |n+1,L,b,hB,hL=>by
   obtain ⟨a,L1,b1,e1,B1,l1,s1,m1,q1,i1⟩:=h.tot L b hB hL
   obtain ⟨l,L2,b2,e2,B2,l2,m2,n2,q2,i2⟩:=RX h n L1 b1 B1 (by omega)
   refine ⟨a::l,L2,b2,by rw [FX,e1,lA];(try dsimp only);rw [e2];rfl,B2,by omega,fun h=>m2 (m1 h),by rw [lJ,n2],fun x hx=> ?_,fun hi hb=> ?_⟩
   ·rcases lS.1 hx with rfl|hx
    ·exact q1
    ·exact q2 x hx
   ·obtain ⟨h2,o2⟩:=i2 hi hb
    obtain ⟨h1,o1⟩:=i1 hi (KG m2 hb)
    refine ⟨by rw [h1,h2,l4,T7,lM],fun x hx=> ?_⟩
    rcases lS.1 hx with rfl|hx
    ·exact o1
    ·exact o2 x hx
theorem RY {f:R→Option (α×R)}{ef:α→List Int}{ok Q:α→Prop}(h:PR rs inv f ef ok Q): ∀(l:List α) (L:List Int),(∀a∈l,ok a)→Po L→FX f l.length (rs (W2 (l.flatMap ef)++L) false)=some (l,rs L false)
  | [],L,_,_=>rfl
  |a::r,L,ho,hB=>by
   have hB2:Po (W2 (r.flatMap ef)++L):=isB_append.2 ⟨Rb _,hB⟩
   rw [lJ,FX,l4,T7,lM,h.fwd a _ (ho a (List.mem_cons_self ..)) hB2,lA]
   try dsimp only
   rw [RY h r L (fun x hx=>ho x (List.mem_cons_of_mem _ hx)) hB];rfl
/-- How many rows, then the rows. -/
theorem PR.list {c:R→Option (Int×R)}{f:R→Option (α×R)}{ef:α→List Int}{ok Q:α→Prop}{cap:Nat}(hc:PR rs inv c (fun n=> [n]) (fun n=>0≤n∧n≤(cap:Int)) (fun n=>0≤n∧n≤(cap:Int)))(h:PR rs inv f ef ok Q):
    PR rs inv (Ke c f) (fun l=>(l.length:Int)::l.flatMap ef) (fun l=>l.length≤cap∧∀a∈l,ok a) (fun l=>l.length≤cap∧∀a∈l,Q a) where
  tot L b hB hL:=by
    obtain ⟨n,L1,b1,e1,B1,l1,s1,m1,q1,i1⟩:=hc.tot L b hB hL
    obtain ⟨l,L2,b2,e2,B2,l2,m2,n2,q2,i2⟩:=RX h n.toNat L1 b1 B1 (by omega)
    refine ⟨l,L2,b2,by unfold Ke;rw [e1,lA];(try dsimp only);rw [e2],B2,by omega,?_,fun h=>m2 (m1 h),⟨by omega,q2⟩,fun hi hb=> ?_⟩
    ·rcases s1 with h|h
     ·exact .inl (by omega)
     ·exact .inr (m2 h)
    ·obtain ⟨h2,o2⟩:=i2 hi hb
     obtain ⟨h1,o1⟩:=i1 hi (KG m2 hb)
     have:(l.length:Int)=n:=by omega
     refine ⟨by rw [h1,h2,this,Bz,Bz,Kd,lN,lM],by omega,o2⟩
  fwd l L ho hB:=by
    have hB2:Po (W2 (l.flatMap ef)++L):=isB_append.2 ⟨Rb _,hB⟩
    have:=hc.fwd (l.length:Int) _ ⟨by omega,by have:=ho.1;omega⟩ hB2
    rw [Bz,Kd,lN]at this
    unfold Ke
    rw [Bz,lM,this,lA]
    try dsimp only
    rw [bO,RY h l L ho.2 hB]
/-- A loop that counts down. -/
theorem ZA {σ τ:Type}{f:R→Option (α×R)}(mk:Int→R→List α→σ)(fin:R→List α→τ)(F:σ→Option (Stp σ τ))
    (hF: ∀i r out,F (mk i r out)=cond (decide (i>0)) ((f r).bind fun v=>(Q4 out [v.1]).bind fun o=>some (.go (mk (K2 (i - 1)) v.2 o))) (some (.out (fin r out)))):
    ∀(n:Nat) (r:R) (out:List α),out.length+n≤1000000000→loop F (mk n r out)=(FX f n r).bind fun w=>some (fin w.2 (out++w.1)):=by
  intro n
  induction n with
  |zero=>
   intro r out _
   rw [K3 (by rw [hF,l7 (by omega)];rfl),FX,lA,lN]
  |succ n ih=>
   intro r out hn
   rw [Pk,hF,l6 (by omega),l9,FX]
   cases f r with
   |none=>rfl
   |some v=>
    rw [lA,Dx (by simp;omega),lA,lA]
    dsimp only
    rw [R8 (by omega),show ((n+1:Nat):Int) - 1=(n:Int) by omega,ih v.2 _ (by simp;omega)]
    cases FX f n v.2 with
    |none=>rfl
    |some w=>simp
end
end Go.Abs
namespace Go.Abs
open Go
theorem AG {α β:Type}{x:Option α}{f g:α→Option β}(h: ∀a,f a=g a):x.bind f=x.bind g:=by rw [funext h]
theorem PR.weakF {R α:Type}{rs:List Int→Bool→R}{f:R→Option (α×R)}{ef ef':α→List Int}{ok ok' Q Q':α→Prop}(h:PR rs false f ef ok Q)(he: ∀a,ef' a=ef a)(h1: ∀a,ok' a→ok a)(h2: ∀a,Q a→Q' a):PR rs false f ef' ok' Q' where
  tot L b hB hL:=by
    obtain ⟨a,L1,b1,e1,B1,l1,s1,m1,q1,_⟩:=h.tot L b hB hL
    exact ⟨a,L1,b1,e1,B1,l1,s1,m1,h2 a q1,nofun⟩
  fwd a L ha hB:=by rw [he];exact h.fwd a L (h1 a ha) hB
/-- A loop that counts down from a number that is read. -/
theorem Ry {R α σ τ γ:Type}{f:R→Option (α×R)}{c:R→Option (Int×R)}(cap:Nat)(hcap:cap≤1000000)(mk:Int→R→List α→σ)(fin:R→List α→τ)(F:σ→Option (Stp σ τ))(r:R)(K:τ→Option γ)(hc: ∀v,c r=some v→0≤v.1∧v.1≤(cap:Int))
    (hF: ∀i r out,F (mk i r out)=cond (decide (i>0)) ((f r).bind fun v=>(Q4 out [v.1]).bind fun o=>some (.go (mk (K2 (i - 1)) v.2 o))) (some (.out (fin r out)))):
    (c r).bind (fun v=>(loop F (mk v.1 v.2 [])).bind K)=(Ke c f r).bind fun w=>K (fin w.2 w.1):=by
  unfold Ke
  cases q:c r with
  |none=>rfl
  |some v=>
   have hv:=hc v q
   rw [lA,lA]
   have:=ZA mk fin F hF v.1.toNat v.2 [] (by simp;omega)
   rw [show ((v.1.toNat:Nat):Int)=v.1 by omega]at this
   rw [this]
   cases FX f v.1.toNat v.2<;>rfl
end Go.Abs
namespace Go.Abs
open Go
theorem PR.mapF {R α β:Type}{rs:List Int→Bool→R}{f:R→Option (α×R)}{ef:α→List Int}{okf Qf:α→Prop}(hf:PR rs false f ef okf Qf)(φ:α→β)(ψ:β→α){eb:β→List Int}{ok Q:β→Prop}(h1: ∀b,φ (ψ b)=b)(he: ∀b,eb b=ef (ψ b))(ho: ∀b,ok b→okf (ψ b))(hq: ∀a,Qf a→Q (φ a)):
    PR rs false (Gc φ f) eb ok Q where
  tot L b hB hL:=by
    obtain ⟨a,L1,b1,e1,B1,l1,s1,m1,q1,i1⟩:=hf.tot L b hB hL
    exact ⟨φ a,L1,b1,by unfold Gc;rw [e1];rfl,B1,l1,s1,m1,hq a q1,nofun⟩
  fwd c L hc hB:=by
    unfold Gc
    rw [he,hf.fwd (ψ c) L (ho c hc) hB,lA]
    try dsimp only
    rw [h1]
theorem PR.mapT {R α β:Type}{rs:List Int→Bool→R}{f:R→Option (α×R)}{ef:α→List Int}{okf Qf:α→Prop}(hf:PR rs true f ef okf Qf)(φ:α→β)(ψ:β→α){eb:β→List Int}{ok Q:β→Prop}(h1: ∀b,φ (ψ b)=b)(h2: ∀a,ψ (φ a)=a)(he: ∀b,eb b=ef (ψ b))(ho: ∀b,ok b↔okf (ψ b))(hq: ∀a,Qf a→Q (φ a)):
    PR rs true (Gc φ f) eb ok Q where
  tot L b hB hL:=by
    obtain ⟨a,L1,b1,e1,B1,l1,s1,m1,q1,i1⟩:=hf.tot L b hB hL
    refine ⟨φ a,L1,b1,by unfold Gc;rw [e1];rfl,B1,l1,s1,m1,hq a q1,fun hi hb=> ?_⟩
    obtain ⟨h,o⟩:=i1 hi hb
    exact ⟨by rw [he,h2];exact h,(ho _).2 (by rw [h2];exact o)⟩
  fwd c L hc hB:=by
    unfold Gc
    rw [he,hf.fwd (ψ c) L ((ho c).1 hc) hB,lA]
    try dsimp only
    rw [h1]
end Go.Abs
namespace Go.Abs
open Go
end Go.Abs
/-! The bytes of a road map. -/
namespace Go.Abs.Roadsz
open Go Go.Abs
noncomputable def dI (v:Int)(x:Int×RoadsWriter):Option (Stp (Int×RoadsWriter) RoadsWriter):=
  cond (decide (x.1≥0)) ((Rh .u64 (IntKind.wrap .u64 v) (IntKind.wrap .u64 x.1)).bind fun v2=>(Q4 x.2.b [(IntKind.wrap .u8 v2)]).bind fun v3=>some (.go ((K2 (x.1 - 8)),(RoadsWriter.mk v3)))) (some (.out x.2))
noncomputable def dJ (ns:List Int)(x:Int×RoadsWriter):Option (Stp (Int×RoadsWriter) RoadsWriter):=
  cond (decide (x.1< (ns.length:Int))) ((F0 ns x.1).bind fun v=>(loop (dI v) (56,x.2)).bind fun y=>some (.go ((K2 (x.1+1)),y))) (some (.out x.2))
noncomputable def NO (ns:List Int)(w:RoadsWriter):Option RoadsWriter:=(loop (dJ ns) (0,w)).bind fun y=>some y
theorem dK (v:Int)(b:List Int)(hb:b.length+8≤1000000000):loop (dI v) (56,⟨b⟩)=some ⟨b++AL v⟩:=
  IQ v (fun k b=>(k,RoadsWriter.mk b)) (fun b=>RoadsWriter.mk b) (dI v) 8 1 (fun k b hk hb=>by
   obtain ⟨x,e1,e2⟩:=NL v (8*k) (by omega)
   unfold dI
   rw [l6 (show (8:Int)* (k:Int)≥0 by omega),l9,show (8:Int)* (k:Int)=((8*k:Nat):Int) by omega,e1,lA,e2,Dx (by simp;omega),lA,R8 (by omega)]
   congr 4;omega) (fun b=>rfl) b hb
theorem Kj {ns:List Int}{b:List Int}(hn:ns.length≤1000000)(hb:b.length+8*ns.length≤1000000000):NO ns ⟨b⟩=some ⟨b++W2 ns⟩:=by
  have:=Ly ns AL (fun i b=>(i,RoadsWriter.mk b)) (fun b=>(⟨b⟩:RoadsWriter)) (dJ ns) (fun i a b ha hb=>by
    unfold dJ
    rw [N6 (F5 ha),l9,D5 ha,lA,dK a b (by rw [AF]at hb;exact hb),lA,H7 (F5 ha) (by omega)]) (fun b=>by unfold dJ;rw [L4];rfl) b (by rw [show ns.flatMap AL=W2 ns from rfl,H9];exact hb)
  unfold NO
  rw [this];rfl
def Rz (p:Spot):List Int:= [p.X,p.Y]
def Lz (l:List Int):List Int:=(l.length:Int)::l
def Nf (l:Lane):List Int:= [l.Kind,l.Half,l.Limit,(l.Curve_.Pts.length:Int)]++ (l.Curve_.Pts.flatMap Rz++Lz l.Next)
def Sa (p:Part):List Int:= [p.Lane_,p.From,p.To,p.Rank]
def Rc (z:Zone):List Int:= [z.Signal_,(z.Parts.length:Int)]++z.Parts.flatMap Sa
def Kk (p:Phase):List Int:= [p.Ticks]++Lz p.Green
def Yn (s:Signal):List Int:= [s.Offset,(s.Phases.length:Int)]++s.Phases.flatMap Kk
def Sc (w:Work):List Int:= [w.Lane_,w.From,w.To,w.Begin,w.End,w.Limit]
def Um (m:Map):List Int:= [m.Version,(m.Lanes.length:Int)]++ (m.Lanes.flatMap Nf++ ([(m.Zones.length:Int)]++ (m.Zones.flatMap Rc++ ([(m.Signals.length:Int)]++ (m.Signals.flatMap Yn++ ([(m.Works.length:Int)]++m.Works.flatMap Sc))))))
def mark4:List Int:= [107,98,109,49]
def Wm (m:Map):List Int:=mark4++W2 (Um m)
theorem Sd (l:List Int):l.flatMap (fun n=>W2 [n])=W2 l:=by rw [show (fun n:Int=>W2 [n])=AL from funext fun n=>lN _];rfl
theorem AH {α:Type}(l:List α)(f:α→List Int):(l.flatMap fun a=>W2 (f a)).length=8* (l.flatMap f).length:=by rw [← T0,H9]
theorem ZB (l:Lane)(b:List Int)(hl:l.Curve_.Pts.length≤1000000)(hb:b.length+8* (l.Curve_.Pts.flatMap Rz).length≤1000000000):loop (Dj l) (0,⟨b⟩)=some ⟨b++W2 (l.Curve_.Pts.flatMap Rz)⟩:=by
  rw [T0]
  exact Ly l.Curve_.Pts (fun p=>W2 (Rz p)) (fun i b=>(i,RoadsWriter.mk b)) (fun b=>RoadsWriter.mk b) (Dj l) (fun i a b ha hb=>by
    rw [H9]at hb
    unfold Dj
    rw [N6 (F5 ha),l9,D5 ha,lA,show Qo ((i:Int),⟨b⟩) a=NO (Rz a) ⟨b⟩ from rfl,Kj (by simp [Rz]) hb,lA,H7 (F5 ha) (by omega)]) (fun b=>by unfold Dj;rw [L4];rfl) b (by rw [AH];exact hb)
theorem TV (l:Lane)(b:List Int)(hl:l.Next.length≤1000000)(hb:b.length+8*l.Next.length≤1000000000):loop (Cj l) (0,⟨b⟩)=some ⟨b++W2 l.Next⟩:=by
  rw [← Sd]
  exact Ly l.Next (fun p=>W2 [p]) (fun i b=>(i,RoadsWriter.mk b)) (fun b=>RoadsWriter.mk b) (Cj l) (fun i a b ha hb=>by
    rw [H9]at hb
    unfold Cj
    rw [N6 (F5 ha),l9,D5 ha,lA,show Ov ((i:Int),⟨b⟩) a=NO [a] ⟨b⟩ from rfl,Kj (by simp) hb,lA,H7 (F5 ha) (by omega)]) (fun b=>by unfold Cj;rw [L4];rfl) b (by rw [Sd,H9];exact hb)
theorem QI (l:Phase)(b:List Int)(hl:l.Green.length≤1000000)(hb:b.length+8*l.Green.length≤1000000000):loop (Cd l) (0,⟨b⟩)=some ⟨b++W2 l.Green⟩:=by
  rw [← Sd]
  exact Ly l.Green (fun p=>W2 [p]) (fun i b=>(i,RoadsWriter.mk b)) (fun b=>RoadsWriter.mk b) (Cd l) (fun i a b ha hb=>by
    rw [H9]at hb
    unfold Cd
    rw [N6 (F5 ha),l9,D5 ha,lA,show Nt ((i:Int),⟨b⟩) a=NO [a] ⟨b⟩ from rfl,Kj (by simp) hb,lA,H7 (F5 ha) (by omega)]) (fun b=>by unfold Cd;rw [L4];rfl) b (by rw [Sd,H9];exact hb)
theorem ZC (m:Map)(B:BearM m)(b:List Int)(hb:b.length+8* (m.Lanes.flatMap Nf).length≤1000000000):loop (Dk m) (0,⟨b⟩)=some ⟨b++W2 (m.Lanes.flatMap Nf)⟩:=by
  rw [T0]
  refine Ly m.Lanes (fun p=>W2 (Nf p)) (fun i b=>(i,RoadsWriter.mk b)) (fun b=>RoadsWriter.mk b) (Dk m) (fun i a b ha hb=> ?_) (fun b=>by unfold Dk;rw [L4];rfl) b (by rw [AH];exact hb)
  obtain ⟨hp,hn⟩:=B.toBear.pts a (lF ha)
  have hlen:=B.lanes
  rw [H9]at hb
  simp only [Nf,Lz,lK,lJ,lL]at hb
  unfold Dk
  rw [N6 (F5 ha),l9,D5 ha,lA,show Qr ((i:Int),⟨b⟩) a=NO [a.Kind,a.Half,a.Limit,(a.Curve_.Pts.length:Int)] ⟨b⟩ from rfl,Kj (by simp) (by simp;omega),lA,
   ZB a _ hp (by simp only [lK,H9,lJ,lL];omega),lA]
  unfold Oz
  rw [show Oy a _=NO [(a.Next.length:Int)] _ from rfl,Kj (by simp) (by simp only [lK,H9,lJ,lL];omega),lA,
   TV a _ hn (by simp only [lK,H9,lJ,lL];omega),lA,lA,H7 (F5 ha) (by omega)]
  simp only [Nf,Lz,T7,lM,Bz,Kd,lO,List.cons_append]
theorem ZD (z:Zone)(b:List Int)(hl:z.Parts.length≤1000000)(hb:b.length+8* (z.Parts.flatMap Sa).length≤1000000000):loop (Cg z) (0,⟨b⟩)=some ⟨b++W2 (z.Parts.flatMap Sa)⟩:=by
  rw [T0]
  exact Ly z.Parts (fun p=>W2 (Sa p)) (fun i b=>(i,RoadsWriter.mk b)) (fun b=>RoadsWriter.mk b) (Cg z) (fun i a b ha hb=>by
    rw [H9]at hb
    unfold Cg
    rw [N6 (F5 ha),l9,D5 ha,lA,show Oj ((i:Int),⟨b⟩) a=NO (Sa a) ⟨b⟩ from rfl,Kj (by simp [Sa]) hb,lA,H7 (F5 ha) (by omega)]) (fun b=>by unfold Cg;rw [L4];rfl) b (by rw [AH];exact hb)
theorem ZE (m:Map)(B:BearM m)(b:List Int)(hb:b.length+8* (m.Zones.flatMap Rc).length≤1000000000):loop (Ci m) (0,⟨b⟩)=some ⟨b++W2 (m.Zones.flatMap Rc)⟩:=by
  rw [T0]
  refine Ly m.Zones (fun p=>W2 (Rc p)) (fun i b=>(i,RoadsWriter.mk b)) (fun b=>RoadsWriter.mk b) (Ci m) (fun i a b ha hb=> ?_) (fun b=>by unfold Ci;rw [L4];rfl) b (by rw [AH];exact hb)
  have hp:=B.toBearZ.parts a (lF ha)
  have hlen:=B.toBearZ.many
  rw [H9]at hb
  simp only [Rc,lK,lJ,lL]at hb
  unfold Ci
  rw [N6 (F5 ha),l9,D5 ha,lA,show Om ((i:Int),⟨b⟩) a=NO [a.Signal_,(a.Parts.length:Int)] ⟨b⟩ from rfl,Kj (by simp) (by simp;omega),lA,
   ZD a _ hp (by simp only [lK,H9,lJ,lL];omega),lA,H7 (F5 ha) (by omega)]
  simp only [Rc,T7,lM]
theorem TW (z:Signal)(b:List Int)(hl:z.Phases.length≤1000000)(hg: ∀p∈z.Phases,p.Green.length≤1000000)(hb:b.length+8* (z.Phases.flatMap Kk).length≤1000000000):loop (Ce z) (0,⟨b⟩)=some ⟨b++W2 (z.Phases.flatMap Kk)⟩:=by
  rw [T0]
  refine Ly z.Phases (fun p=>W2 (Kk p)) (fun i b=>(i,RoadsWriter.mk b)) (fun b=>RoadsWriter.mk b) (Ce z) (fun i a b ha hb=> ?_) (fun b=>by unfold Ce;rw [L4];rfl) b (by rw [AH];exact hb)
  have hn:=hg a (lF ha)
  rw [H9]at hb
  simp only [Kk,Lz,lK,lJ,lL]at hb
  unfold Ce
  rw [N6 (F5 ha),l9,D5 ha,lA,show Oa ((i:Int),⟨b⟩) a=NO [a.Ticks] ⟨b⟩ from rfl,Kj (by simp) (by simp;omega),lA]
  unfold Nx
  rw [show Nw a _=NO [(a.Green.length:Int)] _ from rfl,Kj (by simp) (by simp only [lK,H9,lJ,lL];omega),lA,
   QI a _ hn (by simp only [lK,H9,lJ,lL];omega),lA,lA,H7 (F5 ha) (by omega)]
  simp only [Kk,Lz,T7,lM,Bz,Kd,lO]
theorem QJ (m:Map)(B:BearM m)(b:List Int)(hb:b.length+8* (m.Signals.flatMap Yn).length≤1000000000):loop (Cf m) (0,⟨b⟩)=some ⟨b++W2 (m.Signals.flatMap Yn)⟩:=by
  rw [T0]
  refine Ly m.Signals (fun p=>W2 (Yn p)) (fun i b=>(i,RoadsWriter.mk b)) (fun b=>RoadsWriter.mk b) (Cf m) (fun i a b ha hb=> ?_) (fun b=>by unfold Cf;rw [L4];rfl) b (by rw [AH];exact hb)
  obtain ⟨hp,hg⟩:=B.toBearS.phases a (lF ha)
  have hlen:=B.toBearS.many
  rw [H9]at hb
  simp only [Yn,lK,lJ,lL]at hb
  unfold Cf
  rw [N6 (F5 ha),l9,D5 ha,lA,show Od ((i:Int),⟨b⟩) a=NO [a.Offset,(a.Phases.length:Int)] ⟨b⟩ from rfl,Kj (by simp) (by simp;omega),lA,
   TW a _ hp hg (by simp only [lK,H9,lJ,lL];omega),lA,H7 (F5 ha) (by omega)]
  simp only [Yn,T7,lM]
theorem ZF (m:Map)(B:BearM m)(b:List Int)(hb:b.length+8* (m.Works.flatMap Sc).length≤1000000000):loop (Cc m) (0,⟨b⟩)=some ⟨b++W2 (m.Works.flatMap Sc)⟩:=by
  have hlen:=B.toBearW.many
  rw [T0]
  exact Ly m.Works (fun p=>W2 (Sc p)) (fun i b=>(i,RoadsWriter.mk b)) (fun b=>RoadsWriter.mk b) (Cc m) (fun i a b ha hb=>by
    rw [H9]at hb
    unfold Cc
    rw [N6 (F5 ha),l9,D5 ha,lA,show Nn ((i:Int),⟨b⟩) a=NO (Sc a) ⟨b⟩ from rfl,Kj (by simp [Sc]) hb,lA,H7 (F5 ha) (by omega)]) (fun b=>by unfold Cc;rw [L4];rfl) b (by rw [AH];exact hb)
noncomputable def Un (m:Map):ByteArray×Int:=if Rn m=0 then (H3 (Wm m),0)else (H3 [],Rn m)
theorem ZG {m:Map}(B:BearM m)(hs:Rn m=0→(Um m).length≤100000000):Gh m=some (Un m):=by
  unfold Gh Un
  rw [Wj B,lA]
  by_cases h:Rn m=0
  ·have hs:=hs h
   simp only [Um,lK,lJ,lL]at hs
   rw [bB h,h,show ((0:Int) !=0)=false from rfl,bA,show Qu m=NO [m.Version,(m.Lanes.length:Int)] ⟨mark4⟩ from rfl,Kj (by simp) (by simp [mark4]),lA,
    ZC m B _ (by simp only [lK,H9,lJ,lL,mark4];omega),lA,
    show Oq m _=NO [(m.Zones.length:Int)] _ from rfl,Kj (by simp) (by simp only [lK,H9,lJ,lL,mark4];omega),lA,
    ZE m B _ (by simp only [lK,H9,lJ,lL,mark4];omega),lA,
    show Og m _=NO [(m.Signals.length:Int)] _ from rfl,Kj (by simp) (by simp only [lK,H9,lJ,lL,mark4];omega),lA,
    QJ m B _ (by simp only [lK,H9,lJ,lL,mark4];omega),lA,
    show Nq m _=NO [(m.Works.length:Int)] _ from rfl,Kj (by simp) (by simp only [lK,H9,lJ,lL,mark4];omega),lA,
    ZF m B _ (by simp only [lK,H9,lJ,lL,mark4];omega),lA]
   simp only [Wm,Um,T7,lM]
  ·rw [bC h,show (Rn m !=0)=true by simpa using h];rfl
theorem dL (ns:List Int)(x1:List Int×Int){i:Nat}{n:Int}(h1:x1.2=(i:Int))(hn:ns[i]? =some n)(b:List Int)(hb:b.length+8≤1000000000):loop (Em ns x1) (b,7)=some (b++AL n):=
  IQ n (fun k b=>(b,k)) (fun b=>b) (Em ns x1) 1 1 (fun k b hk hb=>by
   obtain ⟨x,e1,e2⟩:=NL n (8*k) (by omega)
   unfold Em
   rw [l6 (show (1:Int)* (k:Int)≥0 by omega),l9,h1,D5 hn,lA,show (8:Int)* (1* (k:Int))=((8*k:Nat):Int) by omega,R8 (show -9223372036854775808≤((8*k:Nat):Int)∧((8*k:Nat):Int)≤9223372036854775807 by omega),e1,lA,e2,Dx (by simp;omega),lA,R8 (by omega)]
   congr 4;omega) (fun b=>rfl) b hb
theorem De {ns:List Int}(hn:ns.length≤1000000):Q2 ns=some (H3 (W2 ns)):=by
  have:=Ly ns AL (fun i b=>(b,i)) (fun b=>b) (En ns) (fun i a b ha hb=>by
    unfold En
    rw [N6 (F5 ha),l9,dL ns (b,(i:Int)) rfl ha b (by rw [AF]at hb;exact hb),lA,H7 (F5 ha) (by omega)]) (fun b=>by unfold En;rw [L4];rfl) [] (by rw [show ns.flatMap AL=W2 ns from rfl,H9];simp;omega)
  unfold Q2
  rw [this];rfl
theorem RZ {l:List Int}(hl:l.length≤1000000):Mm l=some (H3 (W2 (Lz l))):=by
  have:=Ly l AL (fun i b=>(H3 b,i)) H3 (Hp l) (fun i a b ha hb=>by
    unfold Hp
    rw [AF]at hb
    rw [N6 (F5 ha),l9,D5 ha,lA,De (by simp),lA,Fc (by simp only [H9,lJ,lL];omega),lA,H7 (F5 ha) (by omega),Bz,Kd,lN]) (fun b=>by unfold Hp;rw [L4];rfl)
    (W2 [(l.length:Int)]) (by rw [show l.flatMap AL=W2 l from rfl,H9,H9];simp;omega)
  unfold Mm
  rw [De (by simp),lA,this,lA];rfl
theorem dM (l:Lane)(b:List Int)(hl:l.Curve_.Pts.length≤1000000)(hb:b.length+8* (l.Curve_.Pts.flatMap Rz).length≤1000000000):loop (Dt l) (H3 b,0)=some (H3 (b++W2 (l.Curve_.Pts.flatMap Rz))):=by
  rw [T0]
  exact Ly l.Curve_.Pts (fun p=>W2 (Rz p)) (fun i b=>(H3 b,i)) H3 (Dt l) (fun i a b ha hb=>by
    unfold Dt
    rw [N6 (F5 ha),l9,D5 ha,lA,lA,show [a.X,a.Y]=Rz a from rfl,De (by simp [Rz]),lA,Fc hb,lA,H7 (F5 ha) (by omega)]) (fun b=>by unfold Dt;rw [L4];rfl) b (by rw [AH];exact hb)
theorem TX (m:Map)(B:BearM m)(b:List Int)(hb:b.length+8* (m.Lanes.flatMap Nf).length≤1000000000):loop (Du m) (H3 b,0)=some (H3 (b++W2 (m.Lanes.flatMap Nf))):=by
  rw [T0]
  refine Ly m.Lanes (fun p=>W2 (Nf p)) (fun i b=>(H3 b,i)) H3 (Du m) (fun i a b ha hb=> ?_) (fun b=>by unfold Du;rw [L4];rfl) b (by rw [AH];exact hb)
  obtain ⟨hp,hn⟩:=B.toBear.pts a (lF ha)
  have hlen:=B.lanes
  rw [H9]at hb
  simp only [Nf,Lz,lK,lJ,lL]at hb
  unfold Du
  rw [N6 (F5 ha),l9,D5 ha,lA,De (by simp),lA,Fc (by simp only [H9,lJ,lL];omega),lA,
   dM a _ hp (by simp only [lK,H9,lJ,lL];omega),lA,RZ hn,lA,
   Fc (by simp only [lK,H9,lJ,lL,Lz];omega),lA,H7 (F5 ha) (by omega)]
  simp only [Nf,Lz,T7,lM,Bz,Kd,lO,List.cons_append]
theorem TY (m:Map)(x3:ByteArray×Int){j:Nat}{z:Zone}(hj:x3.2=(j:Int))(hz:m.Zones[j]? =some z)(b:List Int)(hl:z.Parts.length≤1000000)(hb:b.length+8* (z.Parts.flatMap Sa).length≤1000000000):loop (Dr m x3) (H3 b,0)=some (H3 (b++W2 (z.Parts.flatMap Sa))):=by
  rw [T0]
  exact Ly z.Parts (fun p=>W2 (Sa p)) (fun i b=>(H3 b,i)) H3 (Dr m x3) (fun i a b ha hb=>by
    unfold Dr
    rw [hj,D5 hz,lA,N6 (F5 ha),l9,lA,D5 ha,lA,show [a.Lane_,a.From,a.To,a.Rank]=Sa a from rfl,De (by simp [Sa]),lA,Fc hb,lA,H7 (F5 ha) (by omega)]) (fun b=>by unfold Dr;rw [hj,D5 hz,lA,L4];rfl) b (by rw [AH];exact hb)
theorem TZ (m:Map)(B:BearM m)(b:List Int)(hb:b.length+8* (m.Zones.flatMap Rc).length≤1000000000):loop (Ds m) (H3 b,0)=some (H3 (b++W2 (m.Zones.flatMap Rc))):=by
  rw [T0]
  refine Ly m.Zones (fun p=>W2 (Rc p)) (fun i b=>(H3 b,i)) H3 (Ds m) (fun i a b ha hb=> ?_) (fun b=>by unfold Ds;rw [L4];rfl) b (by rw [AH];exact hb)
  have hp:=B.toBearZ.parts a (lF ha)
  have hlen:=B.toBearZ.many
  rw [H9]at hb
  simp only [Rc,lK,lJ,lL]at hb
  unfold Ds
  rw [N6 (F5 ha),l9,D5 ha,lA,lA,De (by simp),lA,Fc (by simp only [H9,lJ,lL];omega),lA,
   TY m _ rfl ha _ hp (by simp only [lK,H9,lJ,lL];omega),lA,H7 (F5 ha) (by omega)]
  simp only [Rc,T7,lM]
theorem QK (m:Map)(x3:ByteArray×Int){j:Nat}{z:Signal}(hj:x3.2=(j:Int))(hz:m.Signals[j]? =some z)(b:List Int)(hl:z.Phases.length≤1000000)(hg: ∀p∈z.Phases,p.Green.length≤1000000)(hb:b.length+8* (z.Phases.flatMap Kk).length≤1000000000):loop (Dp m x3) (H3 b,0)=some (H3 (b++W2 (z.Phases.flatMap Kk))):=by
  rw [T0]
  refine Ly z.Phases (fun p=>W2 (Kk p)) (fun i b=>(H3 b,i)) H3 (Dp m x3) (fun i a b ha hb=> ?_) (fun b=>by unfold Dp;rw [hj,D5 hz,lA,L4];rfl) b (by rw [AH];exact hb)
  have hn:=hg a (lF ha)
  rw [H9]at hb
  simp only [Kk,Lz,lK,lJ,lL]at hb
  unfold Dp
  rw [hj,D5 hz,lA,N6 (F5 ha),l9,lA,D5 ha,lA,De (by simp),lA,Fc (by simp only [H9,lJ,lL];omega),lA,lA,D5 ha,lA,
   RZ hn,lA,Fc (by simp only [lK,H9,lJ,lL,Lz];omega),lA,H7 (F5 ha) (by omega)]
  simp only [Kk,Lz,T7,lM,Bz,Kd,lO]
theorem NP (m:Map)(B:BearM m)(b:List Int)(hb:b.length+8* (m.Signals.flatMap Yn).length≤1000000000):loop (Dq m) (H3 b,0)=some (H3 (b++W2 (m.Signals.flatMap Yn))):=by
  rw [T0]
  refine Ly m.Signals (fun p=>W2 (Yn p)) (fun i b=>(H3 b,i)) H3 (Dq m) (fun i a b ha hb=> ?_) (fun b=>by unfold Dq;rw [L4];rfl) b (by rw [AH];exact hb)
  obtain ⟨hp,hg⟩:=B.toBearS.phases a (lF ha)
  have hlen:=B.toBearS.many
  rw [H9]at hb
  simp only [Yn,lK,lJ,lL]at hb
  unfold Dq
  rw [N6 (F5 ha),l9,D5 ha,lA,lA,De (by simp),lA,Fc (by simp only [H9,lJ,lL];omega),lA,
   QK m _ rfl ha _ hp hg (by simp only [lK,H9,lJ,lL];omega),lA,H7 (F5 ha) (by omega)]
  simp only [Yn,T7,lM]
theorem UA (m:Map)(B:BearM m)(b:List Int)(hb:b.length+8* (m.Works.flatMap Sc).length≤1000000000):loop (Do m) (H3 b,0)=some (H3 (b++W2 (m.Works.flatMap Sc))):=by
  have hlen:=B.toBearW.many
  rw [T0]
  exact Ly m.Works (fun p=>W2 (Sc p)) (fun i b=>(H3 b,i)) H3 (Do m) (fun i a b ha hb=>by
    unfold Do
    rw [N6 (F5 ha),l9,D5 ha,lA,show [a.Lane_,a.From,a.To,a.Begin,a.End,a.Limit]=Sc a from rfl,De (by simp [Sc]),lA,Fc hb,lA,H7 (F5 ha) (by omega)]) (fun b=>by unfold Do;rw [L4];rfl) b (by rw [AH];exact hb)
theorem UB {m:Map}(B:BearM m)(hs:Rn m=0→(Um m).length≤100000000):Kw m=some (Un m):=by
  unfold Kw Un
  rw [Wi B,lA]
  by_cases h:Rn m=0
  ·have hs:=hs h
   simp only [Um,lK,lJ,lL]at hs
   rw [bB h,h,show ((0:Int) !=0)=false from rfl,bA,De (by simp),lA,show ByteArray.mk #[107,98,109,49]=H3 mark4 from rfl,Fc (by simp [mark4,H9]),lA,
    TX m B _ (by simp only [lK,H9,lJ,lL,mark4];omega),lA,De (by simp),lA,Fc (by simp only [lK,H9,lJ,lL,mark4];omega),lA,
    TZ m B _ (by simp only [lK,H9,lJ,lL,mark4];omega),lA,De (by simp),lA,Fc (by simp only [lK,H9,lJ,lL,mark4];omega),lA,
    NP m B _ (by simp only [lK,H9,lJ,lL,mark4];omega),lA,De (by simp),lA,Fc (by simp only [lK,H9,lJ,lL,mark4];omega),lA,
    UA m B _ (by simp only [lK,H9,lJ,lL,mark4];omega),lA]
   simp only [Wm,Um,T7,lM]
  ·rw [bC h,show (Rn m !=0)=true by simpa using h];rfl
abbrev Yq (L:List Int)(b:Bool):RoadsReader:=⟨H3 L,b⟩
abbrev KH (L:List Int)(b:Bool):Ref03Reader:=⟨H3 L,b⟩
theorem ZH {L:List Int}(h:8≤L.length):(L.take 8).length=8:=by rw [lT];omega
theorem QL {L:List Int}{b:Bool}(h:L.length<8):C1 (Yq L b)=some (0,Yq [] true):=by
  unfold C1
  rw [Aq,l6 (show (L.length:Int)<8 by omega)];rfl
theorem UC {L:List Int}{b:Bool}(hB:Po L)(h:8≤L.length):C1 (Yq L b)=some (eR (L.take 8),Yq (L.drop 8) b):=by
  have hB8:=Wk hB 8
  have h8:=ZH h
  unfold C1
  rw [Aq,l7 (show ¬((L.length:Int)<8) by omega),bA,Ra (i:=0) (j:=8) (by omega),lA,
   show ((L.take (8:Int).toNat).drop (0:Int).toNat)=L.take 8 from rfl,
   NN h8 hB8 (V9 (H3 (L.take 8))) (fun i a x hi hx hb ha=>by
    unfold V9
    rw [Kc hB8,h8,N6 (n:=8) hi,l9,D5 hx,lA]
    try dsimp only
    rw [NM ha hb,H7 (n:=8) hi (by omega)]) (fun a=>by
    unfold V9
    rw [Kc hB8,h8];rfl),lA,Ra (i:=8) (j:=(L.length:Int)) (by omega),lA,
   show ((L.take (L.length:Int).toNat).drop (8:Int).toNat)=L.drop 8 by rw [bO,List.take_length];rfl]
  rfl
theorem NQ {L:List Int}{b:Bool}(h:L.length<8):C7 (KH L b)=some (0,KH L true):=by
  unfold C7
  rw [Aq,l6 (show (L.length:Int)<8 by omega)];rfl
theorem QM {L:List Int}{b:Bool}(hB:Po L)(h:8≤L.length):C7 (KH L b)=some (eR (L.take 8),KH (L.drop 8) b):=by
  have hB8:=Wk hB 8
  have h8:=ZH h
  unfold C7
  rw [Aq,l7 (show ¬((L.length:Int)<8) by omega),bA,
   NN h8 hB8 (W0 (KH L b)) (fun i a x hi hx hb ha=>by
    unfold W0
    rw [l6 (show (a,(i:Int)).2<8 by dsimp only;omega),l9,YZ hB,D5 (show L[i]? =some x by rw [l3,bB hi]at hx;exact hx),lA]
    try dsimp only
    rw [NM ha hb,H7 (n:=8) hi (by omega)]) (fun a=>by unfold W0;rfl),lA,Ra (i:=8) (j:=(L.length:Int)) (by omega),lA,
   show ((L.take (L.length:Int).toNat).drop (8:Int).toNat)=L.drop 8 by rw [bO,List.take_length];rfl]
  rfl
theorem SA {R:Type}{rs:List Int→Bool→R}{f:R→Option (Int×R)}{z:List Int→List Int}(hz: ∀L,Po L→L.length<8→Po (z L)∧(z L).length≤L.length)(h1: ∀L b,L.length<8→f (rs L b)=some (0,rs (z L) true))(h2: ∀L b,Po L→8≤L.length→f (rs L b)=some (eR (L.take 8),rs (L.drop 8) b)):
    PR rs true f (fun n=> [n]) G6 G6 where
  tot L b hB _:=by
    by_cases h:L.length<8
    ·obtain ⟨z1,z2⟩:=hz L hB h
     exact ⟨0,z L,true,h1 L b h,z1,z2, .inr rfl,fun _=>rfl,by unfold G6;omega,fun _=>nofun⟩
    ·exact ⟨_,_,b,h2 L b hB (by omega),FV hB 8,by rw [lU];omega, .inl (by rw [lU];omega),id,IP _,fun _ _=>⟨by
       rw [Bz,Kd,lN,dE (ZH (by omega)) (Wk hB 8),List.take_append_drop],IP _⟩⟩
  fwd n L hn hB:=by
    rw [Bz,Kd,lN,h2 _ _ (isB_append.2 ⟨RW n,hB⟩) (by rw [lK,AF];omega)]
    rw [show (AL n++L).take 8=AL n from List.take_left' rfl,show (AL n++L).drop 8=L from List.drop_left' rfl,dG hn]
theorem next_pr:PR Yq true C1 (fun n=> [n]) G6 G6:=SA (z:=fun _=> []) (fun _ _ _=>⟨Rx,bQ _⟩) (fun _ _ h=>QL h) (fun _ _ hB h=>UC hB h)
theorem rnext_pr:PR KH true C7 (fun n=> [n]) G6 G6:=SA (z:=fun L=>L) (fun _ hB _=>⟨hB,bP _⟩) (fun _ _ h=>NQ h) (fun _ _ hB h=>QM hB h)
theorem int_pr:PR Yq true G4 (fun n=> [n]) G6 G6:=by
  have:G4=C1:=funext fun r=>by
    unfold G4
    cases C1 r<;>rfl
  rw [this];exact next_pr
theorem UD (c:Nat)(hc:c≤1099511627776):PR KH true (fun r=>E4 r (c:Int)) (fun n=> [n]) (fun n=>0≤n∧n≤(c:Int)) (fun n=>0≤n∧n≤(c:Int)) where
  tot L b hB hL:=by
    obtain ⟨n,L1,b1,e1,B1,l1,s1,m1,q1,i1⟩:=rnext_pr.tot L b hB hL
    unfold E4
    try dsimp only
    rw [e1,lA]
    by_cases h:0≤n∧n≤(c:Int)
    ·rw [l7 (show ¬(n<0) by omega),l7 (show ¬(n>(c:Int)) by omega)]
     exact ⟨n,L1,b1,rfl,B1,l1,s1,m1,h,fun hi hb=>⟨(i1 hi hb).1,h⟩⟩
    ·rw [show (decide (n<0)||decide (n>(c:Int)))=true by rw [bF,l8,l8];omega]
     exact ⟨0,L1,true,rfl,B1,l1, .inr rfl,fun _=>rfl,by omega,fun _=>nofun⟩
  fwd n L hn hB:=by
    unfold E4
    rw [rnext_pr.fwd n L (by unfold G6;omega) hB,lA]
    try dsimp only
    rw [l7 (show ¬(n<0) by omega),l7 (show ¬(n>(c:Int)) by omega)];rfl
/-! ### The program's rows -/
/-- Rows, as many as a number says, or till there is nothing left. -/
theorem Ng {α:Type}{f:RoadsReader→Option (α×RoadsReader)}{ef:α→List Int}{ok Q:α→Prop}(h:PR Yq false f ef ok Q)(F:List α×Int×RoadsReader→Option (Stp (List α×Int×RoadsReader) (List α×RoadsReader)))(T:RoadsReader→Option (List α×RoadsReader))
    (hF: ∀x,F x=cond ((decide (x.2.1>0))&& (!x.2.2.short)) ((f x.2.2).bind fun v2=>(Q4 x.1 [v2.1]).bind fun v3=>some (.go (v3,(K2 (x.2.1 - 1)),v2.2))) (some (.out (x.1,x.2.2))))
    (hT: ∀r,T r=(C1 r).bind fun v1=>(loop F ([],v1.1,v1.2)).bind fun y1=>some (y1.1,y1.2)):
    PR Yq false T (fun l=>(l.length:Int)::l.flatMap ef) (fun l=>l.length≤1000000∧∀a∈l,ok a) (fun l=>l.length≤200000∧∀a∈l,Q a) where
  tot L b hB hL:=by
    have key: ∀(k:Nat) (out:List α) (n:Int) (L:List Int) (b:Bool),Po L→L.length≤k→k≤100000→out.length+k≤100000→(∀a∈out,Q a)→∃out' L' b',loop F (out,n,Yq L b)=some (out',Yq L' b')∧Po L'∧L'.length≤L.length∧(b=true→b'=true)∧out'.length≤200000∧∀a∈out',Q a:=by
      intro k
      induction k with
      |zero=>
       intro out n L b hB hk _ ho hQ
       by_cases hc:((decide (n>0))&& (!b))=true
       ·obtain ⟨a,L1,b1,e1,B1,l1,s1,m1,q1,_⟩:=h.tot L b hB (by omega)
        have hb1:b1=true:=by rcases s1 with h|h;omega;exact h
        subst hb1
        refine ⟨out++ [a],L1,true,?_,B1,l1,fun _=>rfl,by simp;omega,fun x hx=> ?_⟩
        ·rw [Pk,hF]
         try dsimp only
         rw [hc,l9,e1,lA,Dx (by simp;omega),lA]
         try dsimp only
         rw [K3 (by rw [hF];(try dsimp only);rw [bG,Bool.and_false];rfl)]
        ·rcases lR.1 hx with hx|hx
         ·exact hQ x hx
         ·rw [l5.1 hx];exact q1
       ·exact ⟨out,L,b,K3 (by rw [hF];(try dsimp only);rw [bJ.2 hc];rfl),hB,bP _,id,by omega,hQ⟩
      |succ k ih=>
       intro out n L b hB hk hk6 ho hQ
       by_cases hc:((decide (n>0))&& (!b))=true
       ·obtain ⟨a,L1,b1,e1,B1,l1,s1,m1,q1,_⟩:=h.tot L b hB (by omega)
        have hst:loop F (out,n,Yq L b)=loop F (out++ [a],K2 (n - 1),Yq L1 b1):=by
          rw [Pk,hF]
          try dsimp only
          rw [hc,l9,e1,lA,Dx (by simp;omega),lA]
        have hQ': ∀x∈out++ [a],Q x:=fun x hx=>by
          rcases lR.1 hx with hx|hx
          ·exact hQ x hx
          ·rw [l5.1 hx];exact q1
        rcases s1 with hs|hs
        ·obtain ⟨o',L',b',g1,g2,g3,g4,g5,g6⟩:=ih (out++ [a]) (K2 (n - 1)) L1 b1 B1 (by omega) (by omega) (by simp;omega) hQ'
         exact ⟨o',L',b',hst.trans g1,g2,by omega,fun hb=>g4 (m1 hb),g5,g6⟩
        ·subst hs
         exact ⟨out++ [a],L1,true,hst.trans (K3 (by rw [hF];(try dsimp only);rw [bG,Bool.and_false];rfl)),B1,l1,fun _=>rfl,by simp;omega,hQ'⟩
       ·exact ⟨out,L,b,K3 (by rw [hF];(try dsimp only);rw [bJ.2 hc];rfl),hB,bP _,id,by omega,hQ⟩
    obtain ⟨n,L1,b1,e1,B1,l1,s1,m1,_,_⟩:=next_pr.tot L b hB hL
    obtain ⟨o',L',b',g1,g2,g3,g4,g5,g6⟩:=key L1.length [] n L1 b1 B1 (bP _) (by omega) (by simp;omega) nofun
    refine ⟨o',L',b',by rw [hT,e1,lA];(try dsimp only);rw [g1];rfl,g2,by omega,?_,fun hb=>g4 (m1 hb),⟨g5,g6⟩,nofun⟩
    rcases s1 with h|h
    ·exact .inl (by omega)
    ·exact .inr (g4 h)
  fwd l L ho hB:=by
    have key: ∀(r:List α) (out:List α),out.length+r.length≤1000000→(∀a∈r,ok a)→loop F (out,(r.length:Int),Yq (W2 (r.flatMap ef)++L) false)=some (out++r,Yq L false):=by
      intro r
      induction r with
      |nil=>intro out _ _;rw [K3 (by rw [hF];rfl),lN];rfl
      |cons a r ih=>
       intro out hn ha
       have hB2:Po (W2 (r.flatMap ef)++L):=isB_append.2 ⟨Rb _,hB⟩
       rw [lJ]at hn
       rw [Pk,hF]
       try dsimp only
       rw [lJ,l6 (show ((r.length+1:Nat):Int)>0 by omega),bH,Bool.and_true,l9,l4,T7,lM,h.fwd a _ (ha a (List.mem_cons_self ..)) hB2,lA,Dx (by simp;omega),lA]
       try dsimp only
       rw [R8 (by omega),show ((r.length+1:Nat):Int) - 1=(r.length:Int) by omega,ih _ (by simp;omega) (fun x hx=>ha x (List.mem_cons_of_mem _ hx))]
       simp
    have hB2:Po (W2 (l.flatMap ef)++L):=isB_append.2 ⟨Rb _,hB⟩
    have hn:=next_pr.fwd (l.length:Int) _ (by have:=ho.1;unfold G6;omega) hB2
    rw [Bz,Kd,lN]at hn
    rw [hT,Bz,lM,hn,lA]
    try dsimp only
    rw [key l [] (by simp;exact ho.1) ho.2];rfl
def FY (p:Spot):Prop:=G6 p.X∧G6 p.Y
def KI (l:Lane):Prop:=(0≤l.Kind∧l.Kind≤3)∧G6 l.Half∧G6 l.Limit∧(l.Curve_.Pts.length≤16∧∀p∈l.Curve_.Pts,FY p)∧(l.Next.length≤12∧∀n∈l.Next,0≤n∧n≤1099511627776)
def KJ (p:Part):Prop:=(0≤p.Lane_∧p.Lane_≤12)∧G6 p.From∧G6 p.To∧(0≤p.Rank∧p.Rank≤100)
def KL (z:Zone):Prop:=(0≤z.Signal_∧z.Signal_≤4)∧(z.Parts.length≤6∧∀p∈z.Parts,KJ p)
def DM (p:Phase):Prop:=G6 p.Ticks∧(p.Green.length≤12∧∀n∈p.Green,0≤n∧n≤1099511627776)
def SB (s:Signal):Prop:=G6 s.Offset∧(s.Phases.length≤6∧∀p∈s.Phases,DM p)
def KM (w:Work):Prop:=(0≤w.Lane_∧w.Lane_≤12)∧G6 w.From∧G6 w.To∧G6 w.Begin∧G6 w.End∧G6 w.Limit
def jL (m:Map):Prop:=G6 m.Version∧(m.Lanes.length≤12∧∀l∈m.Lanes,KI l)∧(m.Zones.length≤12∧∀z∈m.Zones,KL z)∧(m.Signals.length≤4∧∀s∈m.Signals,SB s)∧(m.Works.length≤8∧∀w∈m.Works,KM w)
theorem Tg {a b n:Int}(h:a≤n∧n≤b)(ha: -9223372036854775808≤a)(hb:b≤9223372036854775807):G6 n:=by unfold G6;omega
/-! ### The program -/
theorem nx:PR Yq false C1 (fun n=> [n]) G6 G6:=next_pr.no
theorem ix:PR Yq false G4 (fun n=> [n]) G6 G6:=int_pr.no
theorem SC:PR Yq false J4 Lz (fun l=>l.length≤1000000∧∀n∈l,G6 n) (fun l=>l.length≤200000∧∀n∈l,G6 n):=
  (Ng ix _ _ (fun _=>rfl) (fun _=>rfl)).weakF (fun l=>by unfold Lz;congr 1;simp) (fun _ h=>h) (fun _ h=>h)
theorem dN:PR Yq false Af Rz FY (fun _=>True):=by
  have e:Af=Gc (fun p=>Spot.mk p.1 p.2) (Q3 C1 C1):=funext fun r=>by
    unfold Af;simp only [Gc,Q3,Option.bind_assoc,lA]
  rw [e]
  exact (nx.pair nx).mapF (fun p=>Spot.mk p.1 p.2) (fun s=>(s.X,s.Y)) (fun _=>rfl) (fun _=>rfl) (fun b h=>(h:FY b)) (fun _ _=>trivial)
theorem SD {l:List Int}{b:Int}(hb:b≤9223372036854775807)(h: ∀n∈l,0≤n∧n≤b): ∀n∈l,G6 n:=fun n hn=>Tg (h n hn) (by omega) hb
theorem dO:PR Yq false Ag Nf KI (fun l=>l.Curve_.Pts.length≤200000∧l.Next.length≤200000):=by
  have e:Ag=Gc (fun p=>Lane.mk p.1 (Curve.mk p.2.2.2.1) p.2.1 p.2.2.1 p.2.2.2.2) (Q3 G4 (Q3 C1 (Q3 C1 (Q3 Q7 J4)))):=funext fun r=>by
    unfold Ag;simp only [Gc,Q3,Option.bind_assoc,lA]
  rw [e]
  exact (ix.pair (nx.pair (nx.pair ((Ng dN _ _ (fun _=>rfl) (fun _=>rfl)).pair SC)))).mapF _ (fun l=>(l.Kind,l.Half,l.Limit,l.Curve_.Pts,l.Next)) (fun _=>rfl) (fun l=>by simp [Nf])
    (fun l h=>⟨Tg h.1 (by omega) (by omega),h.2.1,h.2.2.1,⟨by have:=h.2.2.2.1.1;dsimp only;omega,h.2.2.2.1.2⟩,by have:=h.2.2.2.2.1;dsimp only;omega,SD (by omega) h.2.2.2.2.2⟩) (fun p h=>⟨h.2.2.2.1.1,h.2.2.2.2.1⟩)
theorem dP:PR Yq false Ah Sa KJ (fun _=>True):=by
  have e:Ah=Gc (fun p=>Part.mk p.1 p.2.1 p.2.2.1 p.2.2.2) (Q3 G4 (Q3 C1 (Q3 C1 G4))):=funext fun r=>by
    unfold Ah;simp only [Gc,Q3,Option.bind_assoc,lA]
  rw [e]
  exact (ix.pair (nx.pair (nx.pair ix))).mapF _ (fun l=>(l.Lane_,l.From,l.To,l.Rank)) (fun _=>rfl) (fun _=>rfl) (fun l h=>⟨Tg h.1 (by omega) (by omega),h.2.1,h.2.2.1,Tg h.2.2.2 (by omega) (by omega)⟩) (fun _ _=>trivial)
theorem dQ:PR Yq false Ai Rc KL (fun z=>z.Parts.length≤200000):=by
  have e:Ai=Gc (fun p=>Zone.mk p.2 p.1) (Q3 G4 Q8):=funext fun r=>by
    unfold Ai;simp only [Gc,Q3,Option.bind_assoc,lA]
  rw [e]
  exact (ix.pair (Ng dP _ _ (fun _=>rfl) (fun _=>rfl))).mapF _ (fun z=>(z.Signal_,z.Parts)) (fun _=>rfl) (fun _=>rfl) (fun l h=>⟨Tg h.1 (by omega) (by omega),by have:=h.2.1;dsimp only;omega,h.2.2⟩) (fun _ h=>h.2.1)
theorem ZI:PR Yq false Y3 Kk DM (fun p=>p.Green.length≤200000):=by
  have e:Y3=Gc (fun p=>Phase.mk p.1 p.2) (Q3 C1 J4):=funext fun r=>by
    unfold Y3;simp only [Gc,Q3,Option.bind_assoc,lA]
  rw [e]
  exact (nx.pair SC).mapF _ (fun z=>(z.Ticks,z.Green)) (fun _=>rfl) (fun _=>rfl) (fun l h=>⟨h.1,by have:=h.2.1;dsimp only;omega,SD (by omega) h.2.2⟩) (fun _ h=>h.2.1)
theorem UE:PR Yq false X1 Yn SB (fun s=>s.Phases.length≤200000∧∀p∈s.Phases,p.Green.length≤200000):=by
  have e:X1=Gc (fun p=>Signal.mk p.1 p.2) (Q3 C1 P0):=funext fun r=>by
    unfold X1;simp only [Gc,Q3,Option.bind_assoc,lA]
  rw [e]
  exact (nx.pair (Ng ZI _ _ (fun _=>rfl) (fun _=>rfl))).mapF _ (fun z=>(z.Offset,z.Phases)) (fun _=>rfl) (fun _=>rfl) (fun l h=>⟨h.1,by have:=h.2.1;dsimp only;omega,h.2.2⟩) (fun _ h=>h.2)
theorem dR:PR Yq false Aj Sc KM (fun _=>True):=by
  have e:Aj=Gc (fun p=>Work.mk p.1 p.2.1 p.2.2.1 p.2.2.2.1 p.2.2.2.2.1 p.2.2.2.2.2) (Q3 G4 (Q3 C1 (Q3 C1 (Q3 C1 (Q3 C1 C1))))):=funext fun r=>by
    unfold Aj;simp only [Gc,Q3,Option.bind_assoc,lA]
  rw [e]
  exact (ix.pair (nx.pair (nx.pair (nx.pair (nx.pair nx))))).mapF _ (fun w=>(w.Lane_,w.From,w.To,w.Begin,w.End,w.Limit)) (fun _=>rfl) (fun _=>rfl) (fun l h=>⟨Tg h.1 (by omega) (by omega),h.2⟩) (fun _ _=>trivial)
/-- What the program reads behind the mark. -/
noncomputable def SE:RoadsReader→Option (Map×RoadsReader):=Gc (fun p=>Map.mk p.1 p.2.1 p.2.2.1 p.2.2.2.1 p.2.2.2.2)
  (Q3 C1 (Q3 N3 (Q3 N4 (Q3 M1 N5))))
theorem prog_pr:PR Yq false SE Um jL BearM:=
  (nx.pair ((Ng dO _ _ (fun _=>rfl) (fun _=>rfl)).pair ((Ng dQ _ _ (fun _=>rfl) (fun _=>rfl)).pair ((Ng UE _ _ (fun _=>rfl) (fun _=>rfl)).pair (Ng dR _ _ (fun _=>rfl) (fun _=>rfl)))))).mapF _
    (fun m=>(m.Version,m.Lanes,m.Zones,m.Signals,m.Works)) (fun _=>rfl) (fun m=>by simp [Um])
    (fun m h=>⟨h.1,⟨by have:=h.2.1.1;dsimp only;omega,h.2.1.2⟩,⟨by have:=h.2.2.1.1;dsimp only;omega,h.2.2.1.2⟩,⟨by have:=h.2.2.2.1.1;dsimp only;omega,h.2.2.2.1.2⟩,by have:=h.2.2.2.2.1;dsimp only;omega,h.2.2.2.2.2⟩)
    (fun p h=>⟨⟨by have:=h.2.1.1;dsimp only;omega,fun l hl=>by have:=h.2.1.2 l hl;omega⟩,⟨by have:=h.2.2.2.1.1;dsimp only;omega,fun s hs=>⟨by have:=(h.2.2.2.1.2 s hs).1;omega,fun p hp=>by have:=(h.2.2.2.1.2 s hs).2 p hp;omega⟩⟩,⟨by have:=h.2.2.1.1;dsimp only;omega,fun z hz=>by have:=h.2.2.1.2 z hz;omega⟩,⟨by have:=h.2.2.2.2.1;dsimp only;omega⟩⟩)
theorem Fd (c:Nat)(r:Ref03Reader)(v:Int×Ref03Reader)(h:E4 r (c:Int)=some v):0≤v.1∧v.1≤(c:Int):=by
  unfold E4 at h
  cases q:C7 r with
  |none=>rw [q]at h;cases h
  |some x=>
   rw [q,lA]at h
   by_cases hc:(decide (x.1<0)||decide (x.1>(c:Int)))=true
   ·rw [hc]at h
    cases h;dsimp only;omega
   ·rw [bJ.2 hc]at h
    cases h
    rw [bF,l8,l8]at hc
    dsimp only;omega
noncomputable abbrev cR (c:Nat)(r:Ref03Reader):=E4 r (c:Int)
theorem Se (c:Nat)(hc:c≤1099511627776):PR KH true (cR c) (fun n=> [n]) (fun n=>0≤n∧n≤(c:Int)) (fun n=>0≤n∧n≤(c:Int)):=UD c hc
theorem NR:PR KH true R3 Lz (fun l=>l.length≤12∧∀n∈l,0≤n∧n≤1099511627776) (fun l=>l.length≤12∧∀n∈l,0≤n∧n≤1099511627776):=by
  have e:R3=Ke (cR 12) (cR 1099511627776):=funext fun r=>by
    unfold R3
    refine (Ry (f:=cR 1099511627776) (c:=cR 12) 12 (by omega) (fun i r out=>(out,i,r)) (fun r out=>(out,r)) Cv r (fun y1=>some (y1.1,y1.2)) (fun v h=>Fd 12 r v h) (fun _ _ _=>rfl)).trans ?_
    cases Ke (cR 12) (cR 1099511627776) r<;>rfl
  rw [e]
  exact ((Se 12 (by omega)).list (Se 1099511627776 (by omega))).weak (fun l=>by unfold Lz;congr 1;simp) (fun _ h=>h) (fun _ h=>h) (fun _ h=>h)
noncomputable def FZ:Ref03Reader→Option (Spot×Ref03Reader):=Gc (fun p=>Spot.mk p.1 p.2) (Q3 C7 C7)
theorem ZJ:PR KH true FZ Rz FY (fun _=>True):=(rnext_pr.pair rnext_pr).mapT (fun p=>Spot.mk p.1 p.2) (fun s=>(s.X,s.Y)) (fun _=>rfl) (fun _=>rfl) (fun _=>rfl) (fun b=>(Iff.rfl:FY b↔_)) (fun _ _=>trivial)
noncomputable def GA:Ref03Reader→Option (Lane×Ref03Reader):=Gc (fun p=>Lane.mk p.1 (Curve.mk p.2.2.2.1) p.2.1 p.2.2.1 p.2.2.2.2) (Q3 (cR 3) (Q3 C7 (Q3 C7 (Q3 (Ke (cR 16) FZ) R3))))
theorem ZK:PR KH true GA Nf KI (fun l=>l.Curve_.Pts.length≤200000∧l.Next.length≤200000):=
  ((Se 3 (by omega)).pair (rnext_pr.pair (rnext_pr.pair (((Se 16 (by omega)).list ZJ).pair NR)))).mapT _ (fun (l:Lane)=>(l.Kind,l.Half,l.Limit,l.Curve_.Pts,l.Next)) (fun _=>rfl) (fun _=>rfl) (fun l=>by simp [Nf]) (fun b=>(Iff.rfl:KI b↔_)) (fun p h=>by have h1:=h.2.2.2.1.1;have h2:=h.2.2.2.2.1;dsimp only;omega)
noncomputable def GB:Ref03Reader→Option (Part×Ref03Reader):=Gc (fun p=>Part.mk p.1 p.2.1 p.2.2.1 p.2.2.2) (Q3 (cR 12) (Q3 C7 (Q3 C7 (cR 100))))
theorem ZL:PR KH true GB Sa KJ (fun _=>True):=
  ((Se 12 (by omega)).pair (rnext_pr.pair (rnext_pr.pair (Se 100 (by omega))))).mapT _ (fun (l:Part)=>(l.Lane_,l.From,l.To,l.Rank)) (fun _=>rfl) (fun _=>rfl) (fun _=>rfl) (fun b=>(Iff.rfl:KJ b↔_)) (fun _ _=>trivial)
noncomputable def GC:Ref03Reader→Option (Zone×Ref03Reader):=Gc (fun p=>Zone.mk p.2 p.1) (Q3 (cR 4) (Ke (cR 6) GB))
theorem ZM:PR KH true GC Rc KL (fun z=>z.Parts.length≤200000):=
  ((Se 4 (by omega)).pair ((Se 6 (by omega)).list ZL)).mapT _ (fun (z:Zone)=>(z.Signal_,z.Parts)) (fun _=>rfl) (fun _=>rfl) (fun _=>rfl) (fun b=>(Iff.rfl:KL b↔_)) (fun p h=>by have:=h.2.1;dsimp only;omega)
noncomputable def AI:Ref03Reader→Option (Phase×Ref03Reader):=Gc (fun p=>Phase.mk p.1 p.2) (Q3 C7 R3)
theorem UF:PR KH true AI Kk DM (fun p=>p.Green.length≤200000):=
  (rnext_pr.pair NR).mapT _ (fun (z:Phase)=>(z.Ticks,z.Green)) (fun _=>rfl) (fun _=>rfl) (fun _=>rfl) (fun b=>(Iff.rfl:DM b↔_)) (fun p h=>by have:=h.2.1;dsimp only;omega)
noncomputable def NS:Ref03Reader→Option (Signal×Ref03Reader):=Gc (fun p=>Signal.mk p.1 p.2) (Q3 C7 (Ke (cR 6) AI))
theorem dS:PR KH true NS Yn SB (fun s=>s.Phases.length≤200000∧∀p∈s.Phases,p.Green.length≤200000):=
  (rnext_pr.pair ((Se 6 (by omega)).list UF)).mapT _ (fun (z:Signal)=>(z.Offset,z.Phases)) (fun _=>rfl) (fun _=>rfl) (fun _=>rfl) (fun b=>(Iff.rfl:SB b↔_)) (fun p h=>⟨by have:=h.2.1;dsimp only;omega,h.2.2⟩)
noncomputable def GD:Ref03Reader→Option (Work×Ref03Reader):=Gc (fun p=>Work.mk p.1 p.2.1 p.2.2.1 p.2.2.2.1 p.2.2.2.2.1 p.2.2.2.2.2) (Q3 (cR 12) (Q3 C7 (Q3 C7 (Q3 C7 (Q3 C7 C7)))))
theorem ZN:PR KH true GD Sc KM (fun _=>True):=
  ((Se 12 (by omega)).pair (rnext_pr.pair (rnext_pr.pair (rnext_pr.pair (rnext_pr.pair rnext_pr))))).mapT _ (fun (w:Work)=>(w.Lane_,w.From,w.To,w.Begin,w.End,w.Limit)) (fun _=>rfl) (fun _=>rfl) (fun _=>rfl) (fun b=>(Iff.rfl:KM b↔_)) (fun _ _=>trivial)
/-- What the document's reader reads behind the mark. -/
noncomputable def dU:Ref03Reader→Option (Map×Ref03Reader):=Gc (fun p=>Map.mk p.1 p.2.1 p.2.2.1 p.2.2.2.1 p.2.2.2.2)
  (Q3 C7 (Q3 (Ke (cR 12) GA) (Q3 (Ke (cR 12) GC) (Q3 (Ke (cR 4) NS) (Ke (cR 8) GD)))))
theorem ref_pr:PR KH true dU Um jL BearM:=
  (rnext_pr.pair (((Se 12 (by omega)).list ZK).pair (((Se 12 (by omega)).list ZM).pair (((Se 4 (by omega)).list dS).pair ((Se 8 (by omega)).list ZN))))).mapT _
    (fun (m:Map)=>(m.Version,m.Lanes,m.Zones,m.Signals,m.Works)) (fun _=>rfl) (fun _=>rfl) (fun m=>by simp [Um]) (fun b=>(Iff.rfl:jL b↔_))
    (fun p h=>⟨⟨by have:=h.2.1.1;dsimp only;omega,fun l hl=>by have:=h.2.1.2 l hl;omega⟩,⟨by have:=h.2.2.2.1.1;dsimp only;omega,fun s hs=>⟨by have:=(h.2.2.2.1.2 s hs).1;omega,fun p hp=>by have:=(h.2.2.2.1.2 s hs).2 p hp;omega⟩⟩,⟨by have:=h.2.2.1.1;dsimp only;omega,fun z hz=>by have:=h.2.2.1.2 z hz;omega⟩,⟨by have:=h.2.2.2.2.1;dsimp only;omega⟩⟩)
/-! ### The document's code reads just that -/
theorem hJ {γ:Type}(r:Ref03Reader)(k h l:Int)(K:Ref03Reader×Lane→Option γ):((cR 16 r).bind fun v8=>(loop Ht (v8.1,v8.2,Lane.mk k (Curve.mk []) h l [])).bind K)=(Ke (cR 16) FZ r).bind fun w=>K (w.2,Lane.mk k (Curve.mk w.1) h l []):=
  Ry (f:=FZ) (c:=cR 16) 16 (by omega) (fun i r out=>(i,r,Lane.mk k (Curve.mk out) h l [])) (fun r out=>(r,Lane.mk k (Curve.mk out) h l [])) Ht r K (fun v h=>Fd 16 r v h) (fun i r out=>by
   unfold Ht FZ;simp only [Gc,Q3,Option.bind_assoc,lA])
theorem ZO {γ:Type}(r:Ref03Reader)(s:Int)(K:Ref03Reader×Zone→Option γ):((cR 6 r).bind fun v=>(loop Hr (v.1,v.2,Zone.mk [] s)).bind K)=(Ke (cR 6) GB r).bind fun w=>K (w.2,Zone.mk w.1 s):=
  Ry (f:=GB) (c:=cR 6) 6 (by omega) (fun i r out=>(i,r,Zone.mk out s)) (fun r out=>(r,Zone.mk out s)) Hr r K (fun v h=>Fd 6 r v h) (fun i r out=>by
   unfold Hr GB;simp only [Gc,Q3,Option.bind_assoc,lA];rfl)
theorem UG {γ:Type}(r:Ref03Reader)(s:Int)(K:Ref03Reader×Signal→Option γ):((cR 6 r).bind fun v=>(loop Hq (v.1,v.2,Signal.mk s [])).bind K)=(Ke (cR 6) AI r).bind fun w=>K (w.2,Signal.mk s w.1):=
  Ry (f:=AI) (c:=cR 6) 6 (by omega) (fun i r out=>(i,r,Signal.mk s out)) (fun r out=>(r,Signal.mk s out)) Hq r K (fun v h=>Fd 6 r v h) (fun i r out=>by
   unfold Hq AI;simp only [Gc,Q3,Option.bind_assoc,lA])
theorem ZP {γ:Type}(r:Ref03Reader)(v:Int)(K:Ref03Reader×Map→Option γ):((cR 12 r).bind fun v4=>(loop Fo (v4.1,v4.2,Map.mk v [] [] [] [])).bind K)=(Ke (cR 12) GA r).bind fun w=>K (w.2,Map.mk v w.1 [] [] []):=
  Ry (f:=GA) (c:=cR 12) 12 (by omega) (fun i r out=>(i,r,Map.mk v out [] [] [])) (fun r out=>(r,Map.mk v out [] [] [])) Fo r K (fun v h=>Fd 12 r v h) (fun i r out=>by
   unfold Fo GA;simp only [Gc,Q3,Option.bind_assoc,lA]
   congr 1
   refine AG fun v5=>AG fun v6=>AG fun v7=> ?_
   refine (hJ v7.2 v5.1 v6.1 v7.1 _).trans ?_
   rfl)
theorem ZQ {γ:Type}(r:Ref03Reader)(v:Int)(l:List Lane)(K:Ref03Reader×Map→Option γ):((cR 12 r).bind fun v4=>(loop Fm (v4.1,v4.2,Map.mk v l [] [] [])).bind K)=(Ke (cR 12) GC r).bind fun w=>K (w.2,Map.mk v l w.1 [] []):=
  Ry (f:=GC) (c:=cR 12) 12 (by omega) (fun i r out=>(i,r,Map.mk v l out [] [])) (fun r out=>(r,Map.mk v l out [] [])) Fm r K (fun v h=>Fd 12 r v h) (fun i r out=>by
   unfold Fm GC;simp only [Gc,Q3,Option.bind_assoc,lA]
   congr 1
   refine AG fun v5=> ?_
   refine (ZO v5.2 v5.1 _).trans ?_
   rfl)
theorem QN {γ:Type}(r:Ref03Reader)(v:Int)(l:List Lane)(z:List Zone)(K:Ref03Reader×Map→Option γ):((cR 4 r).bind fun v4=>(loop Fl (v4.1,v4.2,Map.mk v l z [] [])).bind K)=(Ke (cR 4) NS r).bind fun w=>K (w.2,Map.mk v l z w.1 []):=
  Ry (f:=NS) (c:=cR 4) 4 (by omega) (fun i r out=>(i,r,Map.mk v l z out [])) (fun r out=>(r,Map.mk v l z out [])) Fl r K (fun v h=>Fd 4 r v h) (fun i r out=>by
   unfold Fl NS;simp only [Gc,Q3,Option.bind_assoc,lA]
   congr 1
   refine AG fun v5=> ?_
   refine (UG v5.2 v5.1 _).trans ?_
   rfl)
theorem ZR {γ:Type}(r:Ref03Reader)(v:Int)(l:List Lane)(z:List Zone)(s:List Signal)(K:Ref03Reader×Map→Option γ):((cR 8 r).bind fun v4=>(loop Fk (v4.1,v4.2,Map.mk v l z s [])).bind K)=(Ke (cR 8) GD r).bind fun w=>K (w.2,Map.mk v l z s w.1):=
  Ry (f:=GD) (c:=cR 8) 8 (by omega) (fun i r out=>(i,r,Map.mk v l z s out)) (fun r out=>(r,Map.mk v l z s out)) Fk r K (fun v h=>Fd 8 r v h) (fun i r out=>by
   unfold Fk GD;simp only [Gc,Q3,Option.bind_assoc,lA];rfl)
theorem hO {γ:Type}(r:Ref03Reader)(K:Ref03Reader×Map→Option γ):((C7 r).bind fun v3=>(E4 v3.2 12).bind fun v4=>(loop (Fo) (v4.1,v4.2,(Map.mk v3.1 [] [] [] []))).bind fun y1=>(E4 y1.1 12).bind fun v14=>(loop (Fm) (v14.1,v14.2,(Map.mk y1.2.Version y1.2.Lanes [] [] []))).bind fun y3=>(E4 y3.1 4).bind fun v23=>(loop (Fl) (v23.1,v23.2,(Map.mk y3.2.Version y3.2.Lanes y3.2.Zones [] []))).bind fun y5=>(E4 y5.1 8).bind fun v30=>(loop (Fk) (v30.1,v30.2,(Map.mk y5.2.Version y5.2.Lanes y5.2.Zones y5.2.Signals []))).bind K)
    =(dU r).bind fun w=>K (w.2,w.1):=by
  unfold dU
  simp only [Gc,Q3,Option.bind_assoc,lA]
  refine AG fun v3=> ?_
  refine (ZP v3.2 v3.1 _).trans (AG fun w1=> ?_)
  refine (ZQ w1.2 v3.1 w1.1 _).trans (AG fun w2=> ?_)
  refine (QN w2.2 v3.1 w1.1 w2.1 _).trans (AG fun w3=> ?_)
  exact (ZR w3.2 v3.1 w1.1 w2.1 w3.1 K)
theorem IR {high:Int}: ∀{l:List Int} {low:Int},Cr high low l=true→l= []∨(l.length:Int)≤high - low
  | [],_,_=> .inl rfl
  |n::r,low,h=>by
   unfold Cr at h
   simp only [bE,l8]at h
   right
   rcases IR h.2 with rfl|q
   ·simp;omega
   ·rw [lJ];omega
theorem inR_iff {n a b:Int}:Wv n a b=true↔a≤n∧n≤b:=by unfold Wv;rw [bE,l8,l8]
theorem SF (k:Int):(Qz k).1≤2000:=by
  unfold Qz
  split
  ·exact Int.le_refl _
  ·split
   ·dsimp only;omega
   ·split<;>dsimp only<;>omega
theorem UH {k:Int}(h:(Qz k).1≠0):1≤k∧k≤3:=by
  unfold Qz at h
  split at h
  ·omega
  ·split at h
   ·omega
   ·split at h
    ·omega
    ·exact absurd rfl h
theorem Yo {m:Map}(V:ValR m):jL m:=by
  have hver:=V.ver
  have hla:=V.lanes
  have hsi:=V.signals
  refine ⟨Tg V.ver (by omega) (by omega),⟨V.lanes,fun l hl=> ?_⟩,⟨V.zones,fun z hz=> ?_⟩,⟨V.signals,fun s hs=> ?_⟩,⟨V.works,fun w hw=> ?_⟩⟩
  ·obtain ⟨i,hi,rfl⟩:=List.mem_iff_getElem.1 hl
   have O:=V.laneOK (lG hi)
   have hk:=UH O.kind
   have hc:=checkM_zero.1 O.curve
   have hh:=inR_iff.1 O.half
   have hm:=inR_iff.1 O.limit
   have ht:=SF (m.Lanes[i]).Kind
   have hf:=O.few
   refine ⟨by omega,Tg hh (by omega) (by omega),Tg hm (by omega) (by omega),⟨hc.most,fun p hp=> ?_⟩,⟨by omega,fun n hn=> ?_⟩⟩
   ·have:=okS_iff.1 (lX.1 hc.ok p hp)
    exact ⟨Tg ⟨this.1,this.2.1⟩ (by omega) (by omega),Tg ⟨this.2.2.1,this.2.2.2⟩ (by omega) (by omega)⟩
   ·have:=Kz O.next n hn
    omega
  ·have O:=V.zoneOK hz
   have h6:=O.six
   have hs:=O.sig
   refine ⟨by omega,by omega,fun p hp=> ?_⟩
   have h1:=O.lane hp
   have h2:=O.part p hp
   have h3:=V.long h1.1 h1.2
   exact ⟨by omega,by unfold G6;omega,by unfold G6;omega,by omega⟩
  ·obtain ⟨i,hi,rfl⟩:=List.mem_iff_getElem.1 hs
   have:=firstE_none.1 V.signalE i _ (lG hi)
   unfold Roadsz.signalE at this
   split at this
   ·cases this
   ·split at this
    ·cases this
    ·rename_i h1 h2
     split at this
     ·cases this
     ·rename_i h3
      split at this
      ·cases this
      ·rename_i h4
       split at this
       ·cases this
       ·rename_i h5
        have h3:=inR_iff.1 (Bool.of_not_eq_false h3)
        rw [Bool.not_eq_true,List.any_eq_false]at h4 h5
        refine ⟨Tg h3 (by omega) (by omega),by omega,fun p hp=> ?_⟩
        have h4:=h4 p hp
        have h5:=h5 p hp
        rw [Bool.not_eq_true,Bool.not_eq_false']at h4 h5
        refine ⟨Tg (inR_iff.1 h4) (by omega) (by omega),?_,fun n hn=> ?_⟩
        ·rcases IR h5 with q|q
         ·rw [q];exact bQ _
         ·omega
        ·have:=Kz h5 n hn
         omega
  ·have h:=V.work hw
   have hl:=V.long h.1 h.2.1
   have hlim:0≤w.Limit∧w.Limit≤2000:=by
     obtain ⟨i,hi,rfl⟩:=List.mem_iff_getElem.1 hw
     have:=firstE_none.1 V.workE i _ (lG hi)
     unfold Roadsz.workE at this
     split at this
     ·cases this
     ·split at this
      ·cases this
      ·rename_i h2
       obtain ⟨l,e1,_⟩:=Ww h.1 h.2.1
       rw [e1]at h2
       simp only [bF,not_or,Bool.not_eq_true',Bool.not_eq_false,lE,Option.get!_some]at h2
       have h3:=inR_iff.1 h2.2
       have:=SF l.Kind
       omega
   exact ⟨by omega,by unfold G6;omega,by unfold G6;omega,by unfold G6;omega,by unfold G6;omega,by unfold G6;omega⟩
theorem CJ {α:Type}(f:α→List Int)(c:Nat): ∀(l:List α),(∀a∈l,(f a).length≤c)→(l.flatMap f).length≤l.length*c
  | [],_=>by simp
  |a::r,h=>by
   rw [l4,lK,lJ,bR]
   have:=CJ f c r fun x hx=>h x (List.mem_cons_of_mem _ hx)
   have:=h a (List.mem_cons_self ..)
   omega
theorem ZS {m:Map}(h:jL m):(Um m).length≤10000:=by
  have a:=CJ Nf 60 m.Lanes fun l hl=>by
    have h:=h.2.1.2 l hl
    have h1:=h.2.2.2.1.1
    have h2:=h.2.2.2.2.1
    have:=CJ Rz 2 l.Curve_.Pts fun p _=>bP 2
    simp only [Nf,Lz,lK,lJ,lL]
    omega
  have b:=CJ Rc 30 m.Zones fun z hz=>by
    have h:=(h.2.2.1.2 z hz).2.1
    have:=CJ Sa 4 z.Parts fun p _=>bP 4
    simp only [Rc,lK,lJ,lL]
    omega
  have c:=CJ Yn 100 m.Signals fun s hs=>by
    have h:=(h.2.2.2.1.2 s hs).2
    have:=CJ Kk 14 s.Phases fun p hp=>by
      have:=(h.2 p hp).2.1
      simp only [Kk,Lz,lK,lJ,lL]
      omega
    have:=h.1
    simp only [Yn,lK,lJ,lL]
    omega
  have d:=CJ Sc 6 m.Works fun w _=>bP 6
  have:=h.2.1.1
  have:=h.2.2.1.1
  have:=h.2.2.2.1.1
  have:=h.2.2.2.2.1
  simp only [Um,lK,lJ,lL]
  omega
theorem NT {m:Map}(h:Rn m=0):(Um m).length≤100000000:=by have:=ZS (Yo (chkR_zero.1 h));omega
theorem NU {m:Map}(B:BearM m):Gh m=some (Un m):=ZG B NT
theorem UI {m:Map}(B:BearM m):Kw m=some (Un m):=UB B NT
theorem GF (m:Map):Po (Wm m):=isB_append.2 ⟨by intro b hb;simp only [mark4,lS,List.not_mem_nil,or_false]at hb;omega,Rb _⟩
/-! ### Reading a string -/
/-- What a string is the bytes of. -/
def AJ (L:List Int)(m:Map):Prop:=L=Wm m∧Rn m=0
theorem KN {L1:List Int}{m:Map}(h:W2 (Um m)=L1)(hc:Rn m=0):SE (Yq L1 false)=some (m,Yq [] false):=by
  have:=prog_pr.fwd m [] (Yo (chkR_zero.1 hc)) Rx
  rw [lN,h]at this
  exact this
theorem hZ {L1:List Int}{m:Map}(h:W2 (Um m)=L1)(hc:Rn m=0):dU (KH L1 false)=some (m,KH [] false):=by
  have:=ref_pr.fwd m [] (Yo (chkR_zero.1 hc)) Rx
  rw [lN,h]at this
  exact this
theorem UJ {L:List Int}{m m':Map}(h:AJ L m)(h':AJ L m'):m=m':=by
  have e:W2 (Um m)=W2 (Um m'):=List.append_cancel_left (h.1.symm.trans h'.1)
  have h1:=KN rfl h.2
  rw [e,KN rfl h'.2]at h1
  exact (congrArg Prod.fst (lC h1)).symm
theorem UK:ByteArray.empty=H3 []:=rfl
theorem SG {L:List Int}(hB:Po L):((H3 L).toList==ByteArray.empty.toList)=(L== []):=by rw [UK,toList_eq hB Rx]
theorem iA {L:List Int}(hB:Po L)(hl:L.length≤1000000):Fb (H3 L) (ByteArray.mk #[107,98,109,49])=some (if L.take 4=mark4 then (H3 (L.drop 4),true)else (H3 L,false)):=by
  have hm:Po mark4:=by intro b hb;simp only [mark4,lS,List.not_mem_nil,or_false]at hb;omega
  have e0:ByteArray.mk #[107,98,109,49]=H3 mark4:=rfl
  have hp:R6 (H3 L) (H3 mark4)=some (decide (L.take 4=mark4)):=by
    unfold R6
    rw [Aq,Aq]
    by_cases h4:4≤L.length
    ·rw [show decide ((L.length:Int)≥(mark4.length:Int))=true by rw [l8];simp [mark4];omega,l9,Ra (i:=0) (j:=(mark4.length:Int)) (by simp [mark4];omega),lA,bD,
     show ((L.take ((mark4.length:Nat):Int).toNat).drop (0:Int).toNat)=L.take 4 from rfl,toList_eq (Wk hB 4) hm]
     congr 1
     rw [Bool.eq_iff_iff,bK,l8]
    ·rw [show decide ((L.length:Int)≥(mark4.length:Int))=false by rw [bL];simp [mark4];omega,bA,lA,Bool.false_and]
     congr 1
     symm
     rw [bL]
     intro h
     have:=congrArg List.length h
     rw [lT]at this
     simp [mark4]at this
     omega
  unfold Fb V8
  rw [e0,hp,lA]
  by_cases h:L.take 4=mark4
  ·have h4:4≤L.length:=by
     have:=congrArg List.length h
     rw [lT]at this
     simp [mark4]at this
     omega
   rw [l6 h,bB h,bG,bA,Aq,Aq,Ra (by simp [mark4];omega),lA,lA,
    show ((L.take ((L.length:Nat):Int).toNat).drop ((mark4.length:Nat):Int).toNat)=L.drop 4 by rw [bO,bO,List.take_length];rfl]
  ·rw [l7 h,bC h];rfl
theorem Re {L:List Int}{m:Map}(h:AJ L m):L.take 4=mark4∧L.drop 4=W2 (Um m):=by
  rw [h.1];exact ⟨List.take_left' rfl,List.drop_left' rfl⟩
theorem QO {L:List Int}(h:L.take 4=mark4):L=mark4++L.drop 4:=by rw [← h,List.take_append_drop]
theorem QP {L:List Int}(hB:Po L)(hl:L.length≤100000): ∃r,Mn (H3 L)=some r∧((r=(Sp,3)∧¬∃m,AJ L m)∨∃m,AJ L m∧BearM m∧r=(m,0)):=by
  unfold Mn
  rw [iA hB (by omega),lA]
  by_cases h:L.take 4=mark4
  ·rw [bB h]
   dsimp only
   rw [bG,bA]
   obtain ⟨m,L',b',e,B',l1,s1,m1,Q,_⟩:=prog_pr.tot (L.drop 4) false (FV hB 4) (by rw [lU];omega)
   have hne: ∀m',AJ L m'→m'=m∧L'= []∧b'=false:=by
     intro m' h'
     have:=KN (Re h').2.symm h'.2
     rw [e]at this
     have h1:=congrArg Prod.fst (lC this)
     have h2:=congrArg Prod.snd (lC this)
     dsimp only at h1 h2
     have h3:=congrArg RoadsReader.s h2
     have h4:=congrArg RoadsReader.short h2
     exact ⟨h1.symm,Ym B' Rx h3,h4⟩
   have key: ∀(K:Map×RoadsReader→Option (Map×Int)),((C1 (RoadsReader.mk (H3 (L.drop 4)) false)).bind fun v2=>(N3 v2.2).bind fun v3=>(N4 v3.2).bind fun v4=>(M1 v4.2).bind fun v5=>(N5 v5.2).bind fun v6=>K (Map.mk v2.1 v3.1 v4.1 v5.1 v6.1,v6.2))=K (m,Yq L' b'):=by
     intro K
     have:(SE (Yq (L.drop 4) false)).bind K=K (m,Yq L' b'):=by rw [e];rfl
     rw [← this]
     unfold SE
     simp only [Gc,Q3,Option.bind_assoc,lA]
   have:=key fun x=>((cond (!(x.2.short||(!(x.2.s.toList==ByteArray.empty.toList)))) (W7 x.1) (some default))).bind fun v7=>cond ((x.2.short||(!(x.2.s.toList==ByteArray.empty.toList)))||(v7 !=0)) (some ((Map.mk 0 [] [] [] []),3)) ((Gh x.1).bind fun v8=>cond (!(v8.1.toList==(H3 L).toList)) (some ((Map.mk 0 [] [] [] []),3)) (some (x.1,0)))
   dsimp only at this
   rw [this,SG B',Wj Q]
   by_cases hg:b'=false∧L'= []
   ·obtain ⟨rfl,rfl⟩:=hg
    rw [show (false|| !(([]:List Int)== []))=false from rfl,bH,l9,lA,bI]
    by_cases hc:Rn m=0
    ·rw [hc,show ((0:Int) !=0)=false from rfl,bA,NU Q,lA]
     unfold Un
     rw [bB hc]
     dsimp only
     rw [toList_eq (GF m) hB]
     by_cases hL:Wm m=L
     ·rw [show (Wm m==L)=true by simpa using hL]
      exact ⟨_,rfl, .inr ⟨m,⟨hL.symm,hc⟩,Q,rfl⟩⟩
     ·rw [show (Wm m==L)=false by simpa using hL]
      refine ⟨_,rfl, .inl ⟨rfl,fun ⟨m',h'⟩=> ?_⟩⟩
      obtain ⟨rfl,_⟩:=hne m' h'
      exact hL h'.1.symm
    ·rw [show (Rn m !=0)=true by simpa using hc]
     refine ⟨_,rfl, .inl ⟨rfl,fun ⟨m',h'⟩=> ?_⟩⟩
     obtain ⟨rfl,_⟩:=hne m' h'
     exact hc h'.2
   ·have hb:(b'|| !(L'== []))=true:=by
      cases b'
      ·rw [bI,Bool.not_eq_true',beq_eq_false_iff_ne];intro q;exact hg ⟨rfl,q⟩
      ·rfl
    rw [hb]
    refine ⟨_,rfl, .inl ⟨rfl,fun ⟨m',h'⟩=> ?_⟩⟩
    obtain ⟨_,h2,h3⟩:=hne m' h'
    exact hg ⟨h3,h2⟩
  ·rw [bC h]
   exact ⟨_,rfl, .inl ⟨rfl,fun ⟨m',h'⟩=>h (Re h').1⟩⟩
theorem UL {L:List Int}(hB:Po L)(hl:L.length≤100000): ∃r,Mo (H3 L)=some r∧((r=(Sp,3)∧¬∃m,AJ L m)∨∃m,AJ L m∧BearM m∧r=(m,0)):=by
  have hm:Po mark4:=by intro b hb;simp only [mark4,lS,List.not_mem_nil,or_false]at hb;omega
  have e0:ByteArray.mk #[107,98,109,49]=H3 mark4:=rfl
  unfold Mo
  rw [Aq,e0]
  by_cases h4:L.length<4
  ·rw [l6 (show (L.length:Int)<4 by omega)]
   refine ⟨_,rfl, .inl ⟨rfl,fun ⟨m',h'⟩=> ?_⟩⟩
   have:=congrArg List.length (Re h').1
   rw [lT]at this
   simp [mark4]at this
   omega
  ·rw [l7 (show ¬((L.length:Int)<4) by omega),bH,l9,Ra (i:=0) (j:=4) (by omega),lA,bI,show ((L.take (4:Int).toNat).drop (0:Int).toNat)=L.take 4 from rfl,toList_eq (Wk hB 4) hm]
   by_cases h:L.take 4=mark4
   ·rw [show (L.take 4==mark4)=true by simpa using h,bG,bA,Ra (i:=4) (j:=(L.length:Int)) (by omega),lA,
    show ((L.take ((L.length:Nat):Int).toNat).drop (4:Int).toNat)=L.drop 4 by rw [bO,List.take_length];rfl]
    obtain ⟨m,L',b',e,B',l1,s1,m1,Q,inv⟩:=ref_pr.tot (L.drop 4) false (FV hB 4) (by rw [lU];omega)
    have hne: ∀m',AJ L m'→m'=m∧L'= []∧b'=false:=by
      intro m' h'
      have:=hZ (Re h').2.symm h'.2
      rw [e]at this
      have h1:=congrArg Prod.fst (lC this)
      have h2:=congrArg Prod.snd (lC this)
      dsimp only at h1 h2
      have h3:=congrArg Ref03Reader.s h2
      have h4:=congrArg Ref03Reader.bad h2
      exact ⟨h1.symm,Ym B' Rx h3,h4⟩
    rw [hO,e,lA]
    dsimp only
    rw [SG B',Wi Q]
    by_cases hg:b'=false∧L'= []
    ·obtain ⟨rfl,rfl⟩:=hg
     rw [show (false|| !(([]:List Int)== []))=false from rfl,bH,l9,lA,bI]
     by_cases hc:Rn m=0
     ·rw [hc,show ((0:Int) !=0)=false from rfl,bA]
      obtain ⟨hi,_⟩:=inv rfl rfl
      rw [lN]at hi
      exact ⟨_,rfl, .inr ⟨m,⟨by rw [QO h,hi];rfl,hc⟩,Q,rfl⟩⟩
     ·rw [show (Rn m !=0)=true by simpa using hc]
      refine ⟨_,rfl, .inl ⟨rfl,fun ⟨m',h'⟩=> ?_⟩⟩
      obtain ⟨rfl,_⟩:=hne m' h'
      exact hc h'.2
    ·have hb:(b'|| !(L'== []))=true:=by
       cases b'
       ·rw [bI,Bool.not_eq_true',beq_eq_false_iff_ne];intro q;exact hg ⟨rfl,q⟩
       ·rfl
     rw [hb]
     refine ⟨_,rfl, .inl ⟨rfl,fun ⟨m',h'⟩=> ?_⟩⟩
     obtain ⟨_,h2,h3⟩:=hne m' h'
     exact hg ⟨h3,h2⟩
   ·rw [show (L.take 4==mark4)=false by simpa using h]
    exact ⟨_,rfl, .inl ⟨rfl,fun ⟨m',h'⟩=>h (Re h').1⟩⟩
/-- Both read the same. -/
theorem UM {s:ByteArray}(hl:s.size≤100000): ∃r,Mn s=some r∧Mo s=some r∧BearM r.1:=by
  have hB:=QH s
  have hn:(Av s).length≤100000:=by rw [Xz];exact hl
  obtain ⟨r,h1,h2⟩:=QP hB hn
  obtain ⟨r',h1',h2'⟩:=UL hB hn
  rw [HF]at h1 h1'
  rcases h2 with ⟨rfl,n⟩|⟨m,h,B,rfl⟩
  ·rcases h2' with ⟨rfl,n'⟩|⟨m',h',_⟩
   ·exact ⟨_,h1,h1',QG⟩
   ·exact absurd ⟨m',h'⟩ n
  ·rcases h2' with ⟨rfl,n'⟩|⟨m',h',_,rfl⟩
   ·exact absurd ⟨m,h⟩ n'
   ·obtain rfl:=UJ h h'
    exact ⟨_,h1,h1',B⟩
theorem eS (a b:Map):(((((a.Version==b.Version)&&eqB a.Lanes b.Lanes)&&eqB a.Zones b.Zones)&&eqB a.Signals b.Signals)&&eqB a.Works b.Works)=eqB a b:=by
  cases a;cases b;rw [Bool.eq_iff_iff,eqB_iff];simp [eqB_iff,and_assoc]
theorem iB {l l':List Work}(h:l.length≤1000000):Cy l l'=some (eqB l l'):=
  Ul l l' _ (fun i a b ha hb=>by
   unfold W5
   rw [N6 (F5 ha),l9,D5 ha,D5 hb,lA,lA,YS,H7 (F5 ha) (by omega)]
   cases eqB a b<;>rfl) (by unfold W5;rw [L4];rfl)
theorem iC {l l':List Lane}(h:l.length≤1000000)(hp: ∀x∈l,x.Curve_.Pts.length≤1000000∧x.Next.length≤1000000):L7 l l'=some (eqB l l'):=
  Ul l l' _ (fun i a b ha hb=>by
   unfold I7
   rw [N6 (F5 ha),l9,D5 ha,D5 hb,lA,lA,NH (hp a (lF ha)).1 (hp a (lF ha)).2,lA,H7 (F5 ha) (by omega)]
   cases eqB a b<;>rfl) (by unfold I7;rw [L4];rfl)
theorem iD {l l':List Zone}(h:l.length≤1000000)(hp: ∀x∈l,x.Parts.length≤1000000):L8 l l'=some (eqB l l'):=
  Ul l l' _ (fun i a b ha hb=>by
   unfold I8
   rw [N6 (F5 ha),l9,D5 ha,D5 hb,lA,lA,NI (hp a (lF ha)),lA,H7 (F5 ha) (by omega)]
   cases eqB a b<;>rfl) (by unfold I8;rw [L4];rfl)
theorem ZT {l l':List Signal}(h:l.length≤1000000)(hp: ∀x∈l,x.Phases.length≤1000000∧∀p∈x.Phases,p.Green.length≤1000000):J5 l l'=some (eqB l l'):=
  Ul l l' _ (fun i a b ha hb=>by
   unfold G1
   rw [N6 (F5 ha),l9,D5 ha,D5 hb,lA,lA,HD (hp a (lF ha)).1 (hp a (lF ha)).2,lA,H7 (F5 ha) (by omega)]
   cases eqB a b<;>rfl) (by unfold G1;rw [L4];rfl)
theorem SH {a b:Map}(A:BearM a):Mp a b=some (eqB a b):=by
  unfold Mp
  rw [iC A.toBear.lanes A.toBear.pts,iD A.toBearZ.many A.toBearZ.parts,ZT A.toBearS.many A.toBearS.phases,iB A.toBearW.many,← eS a b]
  cases a.Version==b.Version
  ·rfl
  ·cases eqB a.Lanes b.Lanes
   ·rfl
   ·cases eqB a.Zones b.Zones
    ·rfl
    ·cases eqB a.Signals b.Signals<;>rfl
theorem dV {α:Type}{a b:Map}{t:Int}(l l':List α)(h1:Kh a t=some (l.length:Int))(h2:Kh b t=some (l'.length:Int))(hn:l.length≤1000000)(ht:t≤4)(hs: ∀(i:Nat) x y,l[i]? =some x→l'[i]? =some y→Da a b t (i:Int)=some (eqB x y)):
    Jv a b t=some (cond (eqB l l') (.go (K2 (t+1))) (.out (.inr false))):=by
  unfold Jv
  rw [l6 ht,l9,h1,h2,lA,lA]
  by_cases q:l.length=l'.length
  ·rw [show ((l.length:Int) !=(l'.length:Int))=false by rw [q];simp,bA,← DL l l',q,beq_self_eq_true,Bool.and_true]
   rw [AD (l.zip l') (fun q=> !eqB q.1 q.2) false (fun i p h=>by
    obtain ⟨g1,g2⟩:=KB h
    unfold Ju
    rw [h1,lA,N6 (F5 g1),l9,hs i _ _ g1 g2,lA,H7 (F5 g1) (by omega)]
    cases eqB p.1 p.2<;>rfl) (by unfold Ju;rw [h1,lA,List.length_zip,← q,Nat.min_self,L4];rfl)]
   cases (l.zip l').any fun q=> !eqB q.1 q.2<;>simp [thenS]
  ·rw [show ((l.length:Int) !=(l'.length:Int))=true by rw [bne_iff_ne];omega,l9,YP (fun h=>q (by rw [h]))];rfl
theorem GG {a b:Map}(A:BearM a):Ki a b=some (eqB a b):=by
  have r1:=dV (a:=a) (b:=b) (t:=1) a.Lanes b.Lanes rfl rfl A.toBear.lanes (by omega) (fun i x y hx hy=>by
    obtain ⟨p1,p2⟩:=A.toBear.pts x (lF hx)
    unfold Da
    rw [show ((1:Int)==1)=true from rfl,l9,D5 hx,D5 hy,lA,lA,YV p1 p2];rfl)
  have r2:=dV (a:=a) (b:=b) (t:=2) a.Zones b.Zones rfl rfl A.toBearZ.many (by omega) (fun i x y hx hy=>by
    have p1:=A.toBearZ.parts x (lF hx)
    unfold Da
    rw [show ((2:Int)==1)=false from rfl,show ((2:Int)==2)=true from rfl,bA,l9,D5 hx,D5 hy,lA,lA,YW p1];rfl)
  have r3:=dV (a:=a) (b:=b) (t:=3) a.Signals b.Signals rfl rfl A.toBearS.many (by omega) (fun i x y hx hy=>by
    obtain ⟨p1,p2⟩:=A.toBearS.phases x (lF hx)
    unfold Da
    rw [show ((3:Int)==1)=false from rfl,show ((3:Int)==2)=false from rfl,show ((3:Int)==3)=true from rfl,bA,bA,l9,D5 hx,D5 hy,lA,lA,QD p1 p2];rfl)
  have r4:=dV (a:=a) (b:=b) (t:=4) a.Works b.Works rfl rfl A.toBearW.many (by omega) (fun i x y hx hy=>by
    unfold Da
    rw [show ((4:Int)==1)=false from rfl,show ((4:Int)==2)=false from rfl,show ((4:Int)==3)=false from rfl,bA,bA,bA,D5 hx,D5 hy,lA,lA,YS])
  unfold Ki
  rw [← eS a b]
  cases q1:eqB a.Lanes b.Lanes
  ·rw [K3 (t:= .inr false) (by rw [r1,q1];rfl)]
   simp [thenS]
  rw [Y5 (s':=2) (by rw [r1,q1];rfl)]
  cases q2:eqB a.Zones b.Zones
  ·rw [K3 (t:= .inr false) (by rw [r2,q2];rfl)]
   simp [thenS]
  rw [Y5 (s':=3) (by rw [r2,q2];rfl)]
  cases q3:eqB a.Signals b.Signals
  ·rw [K3 (t:= .inr false) (by rw [r3,q3];rfl)]
   simp [thenS]
  rw [Y5 (s':=4) (by rw [r3,q3];rfl)]
  cases q4:eqB a.Works b.Works
  ·rw [K3 (t:= .inr false) (by rw [r4,q4];rfl)]
   simp [thenS]
  rw [Y5 (s':=5) (by rw [r4,q4];rfl),K3 (t:= .inl ()) rfl]
  simp [thenS]
theorem GH {α:Type}(a:α):eqB a a=true:=eqB_iff.2 rfl
theorem dW {m:Map}(B:BearM m):Uf m=some m:=HE B
theorem QQ (m:Map): ∃L,Po L∧(Un m).1=H3 L:=by
  unfold Un
  split
  ·exact ⟨_,GF m,rfl⟩
  ·exact ⟨_,Rx,rfl⟩
theorem Uo (m o:Map)(s:ByteArray):Jk m o s=some true:=by
  unfold Jk
  rw [NF,NF,lA,YM]
  cases h1:BQ m
  ·rfl
  ·cases h2:BQ o
   ·rfl
   ·have B:=QA h1
    by_cases hs:6000<s.size
    ·rw [show decide ((s.size:Int)>6000)=true by rw [l8];omega];rfl
    ·obtain ⟨r,e1,e2,R⟩:=UM (s:=s) (by omega)
     obtain ⟨L,hL,eL⟩:=QQ m
     rw [show decide ((s.size:Int)>6000)=false by rw [bL];omega]
     simp only [bG,bH,l9,bA,Bool.or_false,lA]
     rw [NU B,UI B,lA,lA,eL,toList_eq hL hL,beq_self_eq_true,e1,e2,lA,lA,GG R,GH,SH B,GG B,dA B,dW B]
     simp only [bne_self_eq_false,bG,Bool.or_false,bH,l9,bA,lA,bI,beq_self_eq_true,bD]
     rw [SH B,GH,lA,l9,lA,l9,GG B,GH]
     rfl
end Go.Abs.Roadsz
