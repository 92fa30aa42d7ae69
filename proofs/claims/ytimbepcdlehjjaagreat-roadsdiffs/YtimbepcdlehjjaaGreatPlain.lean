/-
  Plain facts on the functions: what they compute, and that the law holds of it.
-/
import Derived.Test.YtimbepcdlehjjaaGreatFns3
set_option maxRecDepth 100000
set_option synthInstance.maxHeartbeats 0
set_option synthInstance.maxSize 100000
set_option linter.unusedVariables false
namespace Go.Abs.Roadsz
open Go Go.Abs
instance (a)(b)(c)(d):Le (@Jd Bk a b c d) (Jd a b c d):=by unfold Jd;infer_instance
instance:Le (@Im Bk) (Im):=by unfold Im;infer_instance
instance (a):Le (@Ee Bk a) (Ee a):=by unfold Ee;infer_instance
instance curve_root_le (a):Le (@Bm Bk a) (Bm a):=by unfold Bm;infer_instance
instance (a)(b):Le (@R6 Bk a b) (R6 a b):=by unfold R6;infer_instance
instance (a):Le (@Az Bk a) (Az a):=by unfold Az;infer_instance
instance (a)(b)(c):Le (@W2 Bk a b c) (W2 a b c):=by unfold W2;infer_instance
instance (a)(b):Le (@M2 Bk a b) (M2 a b):=by unfold M2;infer_instance
instance (a):Le (@P8 Bk a) (P8 a):=by unfold P8;infer_instance
instance (a)(b):Le (@L0 Bk a b) (L0 a b):=by unfold L0;infer_instance
instance (a):Le (@P3 Bk a) (P3 a):=by unfold P3;infer_instance
instance (a):Le (@D7 Bk a) (D7 a):=by unfold D7;infer_instance
instance (a):Le (@C8 Bk a) (C8 a):=by unfold C8;infer_instance
instance (a)(b):Le (@O5 Bk a b) (O5 a b):=by unfold O5;infer_instance
instance (a)(b)(c):Le (@C6 Bk a b c) (C6 a b c):=by unfold C6;infer_instance
instance (a)(b):Le (@D4 Bk a b) (D4 a b):=by unfold D4;infer_instance
instance (a)(b):Le (@C7 Bk a b) (C7 a b):=by unfold C7;infer_instance
instance (a)(b):Le (@K0 Bk a b) (K0 a b):=by unfold K0;infer_instance
instance (a):Le (@O2 Bk a) (O2 a):=by unfold O2;infer_instance
instance piecesGo_le (pts:List Spot): ∀(n i:Nat) (s:Int),Le (@Df Bk pts n i s) (Df pts n i s)
  |0,i,s=>Le.refl _
  |n+1,i,s=>by
   unfold Df
   have:=fun i s=>piecesGo_le pts n i s
   infer_instance -- curve_root_le
instance (a):Le (@Kb Bk a) (Kb a):=by unfold Kb;infer_instance
instance (a):Le (@Ba Bk a) (Ba a):=by unfold Ba;infer_instance
instance (a):Le (@Bb Bk a) (Bb a):=by unfold Bb;infer_instance
instance (a)(b):Le (@T5 Bk a b) (T5 a b):=by unfold T5;infer_instance
instance (a)(b)(c):Le (@M3 Bk a b c) (M3 a b c):=by unfold M3;infer_instance
instance (a)(b):Le (@M4 Bk a b) (M4 a b):=by unfold M4;infer_instance
instance (a):Le (@P9 Bk a) (P9 a):=by unfold P9;infer_instance
instance (a)(b):Le (@M5 Bk a b) (M5 a b):=by unfold M5;infer_instance
instance (a):Le (@Q0 Bk a) (Q0 a):=by unfold Q0;infer_instance
instance (a)(b):Le (@O6 Bk a b) (O6 a b):=by unfold O6;infer_instance
instance (a)(b):Le (@J7 Bk a b) (J7 a b):=by unfold J7;infer_instance
instance (a):Le (@R9 Bk a) (R9 a):=by unfold R9;infer_instance
instance (a)(b):Le (@S3 Bk a b) (S3 a b):=by unfold S3;infer_instance
instance (a)(b):Le (@J3 Bk a b) (J3 a b):=by unfold J3;infer_instance
instance (a)(b)(c):Le (@Ao Bk a b c) (Ao a b c):=by unfold Ao;infer_instance
instance (a)(b):Le (@Bd Bk a b) (Bd a b):=by unfold Bd;infer_instance
instance (a)(b)(c):Le (@U0 Bk a b c) (U0 a b c):=by unfold U0;infer_instance
instance (a)(b):Le (@Y8 Bk a b) (Y8 a b):=by unfold Y8;infer_instance
instance (a)(b)(c):Le (@Ap Bk a b c) (Ap a b c):=by unfold Ap;infer_instance
instance (a)(b):Le (@Eo Bk a b) (Eo a b):=by unfold Eo;infer_instance
instance (a)(b)(c):Le (@Fr Bk a b c) (Fr a b c):=by unfold Fr;infer_instance
instance (a)(b):Le (@G9 Bk a b) (G9 a b):=by unfold G9;infer_instance
instance (a)(b):Le (@Ct Bk a b) (Ct a b):=by unfold Ct;infer_instance
instance (a)(b)(c)(d):Le (@Aq Bk a b c d) (Aq a b c d):=by unfold Aq;infer_instance
instance (a)(b)(c):Le (@Cu Bk a b c) (Cu a b c):=by unfold Cu;infer_instance
instance (a)(b):Le (@Cb Bk a b) (Cb a b):=by unfold Cb;infer_instance
instance (a):Le (@Fs Bk a) (Fs a):=by unfold Fs;infer_instance
instance (a)(b)(c):Le (@G6 Bk a b c) (G6 a b c):=by unfold G6;infer_instance
instance (a)(b)(c):Le (@F9 Bk a b c) (F9 a b c):=by unfold F9;infer_instance
instance (a)(b)(c):Le (@Cl Bk a b c) (Cl a b c):=by unfold Cl;infer_instance
instance (a)(b)(c):Le (@S4 Bk a b c) (S4 a b c):=by unfold S4;infer_instance
instance (a)(b)(c)(d):Le (@F6 Bk a b c d) (F6 a b c d):=by unfold F6;infer_instance
instance (a)(b)(c):Le (@G4 Bk a b c) (G4 a b c):=by unfold G4;infer_instance
instance (a)(b)(c):Le (@F7 Bk a b c) (F7 a b c):=by unfold F7;infer_instance
instance (a)(b)(c)(d):Le (@S5 Bk a b c d) (S5 a b c d):=by unfold S5;infer_instance
instance (a)(b)(c)(d)(e):Le (@E8 Bk a b c d e) (E8 a b c d e):=by unfold E8;infer_instance
instance (a)(b)(c)(d):Le (@G2 Bk a b c d) (G2 a b c d):=by unfold G2;infer_instance
instance (a)(b)(c)(d):Le (@E9 Bk a b c d) (E9 a b c d):=by unfold E9;infer_instance
instance (a)(b):Le (@Ar Bk a b) (Ar a b):=by unfold Ar;infer_instance
instance (a):Le (@Ep Bk a) (Ep a):=by unfold Ep;infer_instance
instance (a)(b)(c)(d):Le (@As Bk a b c d) (As a b c d):=by unfold As;infer_instance
instance (a)(b):Le (@Au Bk a b) (Au a b):=by unfold Au;infer_instance
instance (a):Le (@Er Bk a) (Er a):=by unfold Er;infer_instance
instance (a)(b)(c):Le (@Y9 Bk a b c) (Y9 a b c):=by unfold Y9;infer_instance
instance (a)(b):Le (@Y6 Bk a b) (Y6 a b):=by unfold Y6;infer_instance
instance (a)(b)(c):Le (@Dq Bk a b c) (Dq a b c):=by unfold Dq;infer_instance
instance (a)(b)(c)(d)(e)(f):Le (@L5 Bk a b c d e f) (L5 a b c d e f):=by unfold L5;infer_instance
instance (a)(b)(c)(d)(e):Le (@L6 Bk a b c d e) (L6 a b c d e):=by unfold L6;infer_instance
instance (a)(b)(c):Le (@L7 Bk a b c) (L7 a b c):=by unfold L7;infer_instance
instance (a)(b):Le (@P2 Bk a b) (P2 a b):=by unfold P2;infer_instance
instance (a):Le (@Ft Bk a) (Ft a):=by unfold Ft;infer_instance
instance (a)(b)(c):Le (@S6 Bk a b c) (S6 a b c):=by unfold S6;infer_instance
instance (a)(b)(c)(d):Le (@E5 Bk a b c d) (E5 a b c d):=by unfold E5;infer_instance
instance (a)(b)(c):Le (@F0 Bk a b c) (F0 a b c):=by unfold F0;infer_instance
instance (a)(b)(c):Le (@E6 Bk a b c) (E6 a b c):=by unfold E6;infer_instance
instance (a)(b)(c)(d):Le (@V0 Bk a b c d) (V0 a b c d):=by unfold V0;infer_instance
instance (a)(b)(c)(d)(e)(f)(g):Le (@K2 Bk a b c d e f g) (K2 a b c d e f g):=by unfold K2;infer_instance
instance (a)(b)(c)(d)(e)(f):Le (@K3 Bk a b c d e f) (K3 a b c d e f):=by unfold K3;infer_instance
instance (a)(b)(c)(d):Le (@K4 Bk a b c d) (K4 a b c d):=by unfold K4;infer_instance
instance (a)(b)(c):Le (@N7 Bk a b c) (N7 a b c):=by unfold N7;infer_instance
instance (a):Le (@Es Bk a) (Es a):=by unfold Es;infer_instance
instance (a):Le (@In Bk a) (In a):=by unfold In;infer_instance
instance (a)(b):Le (@Jj Bk a b) (Jj a b):=by unfold Jj;infer_instance
instance (a)(b):Le (@Et Bk a b) (Et a b):=by unfold Et;infer_instance
instance (a)(b)(c)(d):Le (@Fu Bk a b c d) (Fu a b c d):=by unfold Fu;infer_instance
instance law03_awake_le:Le (@Cm Bk) (Cm):=by unfold Cm;infer_instance
theorem Dn (n:Int): ∃y,Bm n=some (y,y*y==n)∧0≤y∧y≤67108864∧(∀m,0≤m→m<y→m*m<n)∧(y=67108864∨n≤y*y):=by
  have key:=CF (f:=Fe n) (fun x=>0≤x.1∧x.1≤x.2∧x.2≤67108864∧(∀m,0≤m→m<x.1→m*m<n)∧(x.2=67108864∨n≤x.2*x.2)) (fun x=>(x.2 - x.1).toNat)
    (fun y=>0≤y∧y≤67108864∧(∀m,0≤m→m<y→m*m<n)∧(y=67108864∨n≤y*y)) (by
      rintro ⟨lo,hi⟩ ⟨h1,h2,h3,h4,h5⟩
      dsimp only at h1 h2 h3 h4 h5
      unfold Fe
      dsimp only
      by_cases hlt:lo<hi
      ·have e1:I8 (lo+hi)=lo+hi:=P0 (by omega)
       have e2:I8 ((lo+hi).tdiv 2)=(lo+hi) / 2:=by rw [Int.tdiv_eq_ediv_of_nonneg (by omega)];exact P0 (by omega)
       have hm:lo≤(lo+hi) / 2∧(lo+hi) / 2<hi:=by omega
       generalize hmid:(lo+hi) / 2=mid at*
       have hmm:mid*mid≤67108864*67108864:=GQ (by omega) (by omega)
       have hmm0:=Ik mid
       have e3:I8 (mid*mid)=mid*mid:=P0 (by omega)
       have e4:I8 (mid+1)=mid+1:=P0 (by omega)
       simp only [e1,e2,e3,e4,hlt,decide_true,l7]
       by_cases hc:mid*mid<n
       ·simp only [hc,decide_true,l7]
        refine ⟨_,rfl,⟨by omega,by omega,h3,fun m hm0 hm1=> ?_,h5⟩,by dsimp only;omega⟩
        rcases Int.lt_or_le m mid with q|q
        ·have:=Int.mul_le_mul (show m≤mid by omega) (show m≤mid by omega) hm0 (by omega);omega
        ·have:m=mid:=by dsimp only at hm1;omega
         subst this;exact hc
       ·simp only [hc,decide_false,l8]
        exact ⟨_,rfl,⟨h1,by dsimp only;omega,by dsimp only;omega,h4, .inr (by dsimp only;omega)⟩,by dsimp only;omega⟩
      ·simp only [hlt,decide_false,l8]
       obtain rfl:lo=hi:=by omega
       exact ⟨_,rfl,h1,h3,h4,h5⟩) (0,67108864) ⟨by decide,by decide,by decide,fun m h1 h2=>by dsimp only at h2;omega, .inl rfl⟩
  obtain ⟨y,hy,h1,h2,h3,h4⟩:=key
  refine ⟨y,?_,h1,h2,h3,h4⟩
  have hmm:y*y≤67108864*67108864:=GQ (by omega) (by omega)
  have hmm0:=Ik y
  unfold Bm
  rw [hy,lA,P0 (by omega)]
/-- The least number whose square is not less. -/
noncomputable def rt (n:Int):Int:=(Dn n).choose
theorem Pb (n:Int):Bm n=some (rt n,rt n*rt n==n):=(Dn n).choose_spec.1
theorem Sp (n:Int):0≤rt n:=(Dn n).choose_spec.2.1
theorem SA (n m:Int)(h1:0≤m)(h2:m<rt n):m*m<n:=(Dn n).choose_spec.2.2.2.1 m h1 h2
theorem SB (n:Int):rt n=67108864∨n≤rt n*rt n:=(Dn n).choose_spec.2.2.2.2
theorem MD {l:Int}(h0:0≤l)(h1:l≤67108864):rt (l*l)=l:=by
  rcases Int.lt_trichotomy (rt (l*l)) l with q|q|q
  ·rcases SB (l*l)with h|h
   ·omega
   ·have h2:=Sp (l*l)
    have:=Int.mul_lt_mul' (show rt (l*l)≤l by omega) q h2 (by omega);omega
  ·exact q
  ·have:=SA (l*l) l h0 q;omega
theorem Uc (n:Int)(h0:0≤n)(h1:n<18014398509481984): ∃r,Eg n=some r∧0≤r∧r<134217728∧r*r≤n∧n< (r+1)* (r+1):=by
  have key:=CF (f:=Fh n) (fun x=>0≤x.1∧x.1*x.1≤n∧((∃k:Nat,k≤26∧x.2=2^k∧x.1+2*2^k≤134217728∧n< (x.1+2*2^k)* (x.1+2*2^k))∨(x.2=0∧x.1<134217728∧n< (x.1+1)* (x.1+1)))) (fun x=>x.2.toNat)
    (fun r=>0≤r∧r<134217728∧r*r≤n∧n< (r+1)* (r+1)) (by
      rintro ⟨r,bit⟩ ⟨q1,q2,q3⟩
      dsimp only at q1 q2 q3
      unfold Fh
      dsimp only
      rcases q3 with ⟨k,hk,rfl,q4,q5⟩|⟨rfl,q4,q5⟩
      ·have hp:(0:Int)<2^k:=Int.pow_pos (by decide)
       generalize hb:(2:Int)^k=b at*
       have e1:I8 (r+b)=r+b:=P0 (by omega)
       have hmm:(r+b)* (r+b)≤134217728*134217728:=GQ (by omega) (by omega)
       have hmm0:=Ik (r+b)
       have e2:I8 ((r+b)* (r+b))=(r+b)* (r+b):=P0 (by omega)
       have e3:I8 (b.tdiv 2)=b / 2:=by rw [Int.tdiv_eq_ediv_of_nonneg (by omega)];exact P0 (by omega)
       have hb0:b>0:=by omega
       simp only [e1,e2,e3,hb0,decide_true,l7]
       have hnext: ∀r',0≤r'→r'*r'≤n→r'+b≤134217728→n< (r'+b)* (r'+b)→(∃j:Nat,j≤26∧b / 2=2^j∧r'+2*2^j≤134217728∧n< (r'+2*2^j)* (r'+2*2^j))∨(b / 2=0∧r'<134217728∧n< (r'+1)* (r'+1)):=by
         intro r' a1 a2 a3 a4
         cases k with
         |zero=>
          have:b=1:=by rw [← hb];rfl
          subst this
          exact .inr ⟨by decide,by omega,a4⟩
         |succ j=>
          have hj:b=2*2^j:=by rw [← hb,Int.pow_succ];omega
          refine .inl ⟨j,by omega,by omega,by omega,by rw [← hj];exact a4⟩
       by_cases hc:(r+b)* (r+b)≤n
       ·simp only [hc,decide_true,l7]
        refine ⟨_,rfl,⟨by dsimp only;omega,hc,hnext (r+b) (by omega) hc (by omega) (by rw [show r+b+b=r+2*b by omega];exact q5)⟩,by dsimp only;omega⟩
       ·simp only [hc,decide_false,l8]
        exact ⟨_,rfl,⟨q1,q2,hnext r q1 q2 (by omega) (by omega)⟩,by dsimp only;omega⟩
      ·simp only [show ¬(0:Int)>0 by decide,decide_false,l8]
       exact ⟨_,rfl,q1,q4,q2,q5⟩) (0,67108864) ⟨by decide,by dsimp only;omega, .inl ⟨26,by decide,by decide,by decide,by dsimp only;omega⟩⟩
  obtain ⟨r,hr,a⟩:=key
  exact ⟨r,by unfold Eg;rw [hr];rfl,a⟩
theorem Xn {n:Int}(h0:0≤n)(h1:n≤4503599627370496): ∃r,Eg n=some r∧0≤r∧r<134217728∧(r*r=n↔rt n*rt n=n)∧(r*r=n→r=rt n):=by
  obtain ⟨r,hr,a1,a2,a3,a4⟩:=Uc n h0 (by omega)
  have hr26:r≤67108864:=by
    rcases Int.lt_or_le r 67108865 with q|q
    ·omega
    ·have:=Int.mul_le_mul q q (by decide) (by omega);omega
  refine ⟨r,hr,a1,a2,⟨fun h=> ?_,fun h=> ?_⟩,fun h=> ?_⟩
  ·rw [← h,MD a1 hr26]
  ·rcases Int.lt_trichotomy r (rt n)with q|q|q
   ·have:=Int.mul_le_mul (show r+1≤rt n by omega) (show r+1≤rt n by omega) (by omega) (Sp n);omega
   ·rw [q];exact h
   ·have h2:=Sp n
    have:=Int.mul_lt_mul' (show rt n≤r by omega) q h2 (by omega);omega
  ·rw [← h,MD a1 hr26]
def Ls (p:Spot):Bool:=decide (-16777216≤p.X)&&decide (p.X≤16777216)&&decide (-16777216≤p.Y)&&decide (p.Y≤16777216)
theorem okS_iff {p:Spot}:Ls p=true↔ -16777216≤p.X∧p.X≤16777216∧ -16777216≤p.Y∧p.Y≤16777216:=by simp [Ls,and_assoc]
theorem IM (p:Spot):((decide ((Ej false p.X p.Y)< (-16777216)))||(decide ((Ej true p.X p.Y)>16777216)))= !Ls p:=by
  rw [GR,OU]
  cases h:Ls p with
  |true=>have:=okS_iff.1 h;simp;omega
  |false=>
   have: ¬(-16777216≤p.X∧p.X≤16777216∧ -16777216≤p.Y∧p.Y≤16777216):=fun q=>by rw [okS_iff.2 q]at h;cases h
   simp;omega
theorem Xo (l:List Spot)(hl:l.length≤1000000): ∀(r:List Spot) (i:Nat),l.drop i=r→loop (Bl l) (i:Int)=some (if r.all Ls then .inl ()else .inr false):=by
  intro r
  induction r with
  |nil=>
   intro i hi
   have:=X7 hi
   refine I6 ?_
   unfold Bl
   simp only [show ¬(i:Int)<l.length by omega,decide_false,l8,List.all_nil,if_true]
  |cons p r ih=>
   intro i hi
   have hlt:=U7 hi
   have hstep:Bl l (i:Int)=if Ls p then some (.go ((i+1:Nat):Int))else some (.out (.inr false)):=by
     unfold Bl
     simp only [show (i:Int)<l.length by omega,decide_true,l7,X0 hi,lA,IM]
     cases h:Ls p with
     |true=>simp only [bE,l8,if_true];rw [P0 (by omega)];rfl
     |false=>simp
   cases h:Ls p with
   |true=>
    rw [h,l9 rfl]at hstep
    rw [R7 hstep,ih (i+1) (Q1 hi)]
    simp [h]
   |false=>
    rw [h]at hstep
    rw [I6 hstep]
    simp [h]
theorem Xp (l:List Spot)(hl:l.length≤1000000):Ee l=some (l.all Ls):=by
  unfold Ee
  have:=Xo l hl l 0 (by simp)
  rw [show ((0:Nat):Int)=0 from rfl]at this
  rw [this]
  cases l.all Ls<;>rfl
theorem Wi (p:Spot):Ho p=some (Ls p):=by
  unfold Ho Ls;rfl
def L8 (p q:Spot):CurveVector:=⟨q.X - p.X,q.Y - p.Y⟩
def H9 (v w:CurveVector):Int:=v.x*w.x+v.y*w.y
/-- A vector between valid spots. -/
def IW (v:CurveVector):Prop:= -33554432≤v.x∧v.x≤33554432∧ -33554432≤v.y∧v.y≤33554432
theorem Rf {p q:Spot}(hp:Ls p=true)(hq:Ls q=true):IW (L8 p q):=by
  have:=okS_iff.1 hp;have:=okS_iff.1 hq
  unfold IW L8;dsimp only;omega
theorem Pc {p q:Spot}(hp:Ls p=true)(hq:Ls q=true):Gw p q=some (L8 p q):=by
  have:=okS_iff.1 hp;have:=okS_iff.1 hq
  unfold Gw L8
  rw [P0 (by omega),P0 (by omega)]
theorem FL {v w:CurveVector}(hv:IW v)(hw:IW w): -2251799813685248≤H9 v w∧H9 v w≤2251799813685248∧(-1125899906842624≤v.x*w.x∧v.x*w.x≤1125899906842624)∧ -1125899906842624≤v.y*w.y∧v.y*w.y≤1125899906842624:=by
  obtain ⟨a1,a2,a3,a4⟩:=hv
  obtain ⟨b1,b2,b3,b4⟩:=hw
  have h1:=LI ⟨a1,a2⟩ ⟨b1,b2⟩
  have h2:=LI ⟨a3,a4⟩ ⟨b3,b4⟩
  unfold H9
  omega
theorem Lu {v w:CurveVector}(hv:IW v)(hw:IW w):U9 v w=some (H9 v w):=by
  have h:=FL hv hw
  unfold U9
  rw [P0 (n:=v.x*w.x) (by omega),P0 (n:=v.y*w.y) (by omega),P0 (by unfold H9 at h;omega)]
  rfl
theorem FM (v:CurveVector):0≤H9 v v:=by have:=Ik v.x;have:=Ik v.y;unfold H9;omega
def vs (v:CurveVector):Spot:=⟨v.x,v.y⟩
theorem Jp {p q:Spot}(hp:Ls p=true)(hq:Ls q=true):Ef q p=some (vs (L8 p q)):=by
  have:=okS_iff.1 hp;have:=okS_iff.1 hq
  unfold Ef L8 vs
  rw [P0 (by omega),P0 (by omega)]
theorem Lv {v w:CurveVector}(hv:IW v)(hw:IW w):Fx (vs v) (vs w)=some (H9 v w):=by
  have h:=FL hv hw
  unfold Fx vs
  dsimp only
  rw [P0 (n:=v.x*w.x) (by omega),P0 (n:=v.y*w.y) (by omega),P0 (by unfold H9 at h;omega)]
  rfl
/-- The error of a chain of points, from a piece on; the piece ahead of it. -/
noncomputable def CW:Option CurveVector→List Spot→Int
  |last,p::q::r=>
   if rt (H9 (L8 p q) (L8 p q))*rt (H9 (L8 p q) (L8 p q))≠H9 (L8 p q) (L8 p q)then 3
   else if rt (H9 (L8 p q) (L8 p q))<1000∨rt (H9 (L8 p q) (L8 p q))>1048576 then 2
   else match last with
     |some u=>if H9 u (L8 p q)≤0 then 12 else CW (some (L8 p q)) (q::r)
     |none=>CW (some (L8 p q)) (q::r)
  |_,_=>0
theorem Rg (last:Option CurveVector)(p q:Spot)(r:List Spot):CW last (p::q::r)=
    if rt (H9 (L8 p q) (L8 p q))*rt (H9 (L8 p q) (L8 p q))≠H9 (L8 p q) (L8 p q)then 3
    else if rt (H9 (L8 p q) (L8 p q))<1000∨rt (H9 (L8 p q) (L8 p q))>1048576 then 2
    else match last with
      |some u=>if H9 u (L8 p q)≤0 then 12 else CW (some (L8 p q)) (q::r)
      |none=>CW (some (L8 p q)) (q::r):=by
  conv=>lhs;unfold CW
noncomputable def X5 (l:List Spot):Int:=if l.length<2 then 6 else if l.length>16 then 5 else if l.all Ls then CW none l else 2
theorem Wj (c:Curve)(hl:c.Pts.length≤1000000)(hok:c.Pts.all Ls=true): ∀(r:List Spot) (p:Spot) (i:Nat) (last:CurveVector),c.Pts.drop i=p::r→IW last→
    loop (R6 c) ((i:Int),last)=some (if CW (if i=0 then none else some last) (p::r)=0 then .inl ()else .inr (CW (if i=0 then none else some last) (p::r))):=by
  intro r
  induction r with
  |nil=>
   intro p i last hi hlast
   have hlt:=U7 hi
   have:=X7 (Q1 hi)
   refine I6 ?_
   unfold R6
   dsimp only
   rw [P0 (n:=(c.Pts.length:Int) - 1) (by omega)]
   simp only [show ¬(i:Int)< (c.Pts.length:Int) - 1 by omega,decide_false,l8,CW,if_true]
  |cons q r ih=>
   intro p i last hi hlast
   have hlt:=U7 hi
   have hi1:=Q1 hi
   have hlt1:=U7 hi1
   have hp:Ls p=true:=lV.1 hok p (List.mem_of_mem_drop (i:=i) (by rw [hi];simp))
   have hq:Ls q=true:=lV.1 hok q (List.mem_of_mem_drop (i:=i) (by rw [hi];simp))
   have hv:=Rf hp hq
   have hg1:D6 c.Pts ((i:Int)+1)=some q:=by have:=X0 hi1;simpa using this
   have hstep:R6 c ((i:Int),last)=
    if rt (H9 (L8 p q) (L8 p q))*rt (H9 (L8 p q) (L8 p q))≠H9 (L8 p q) (L8 p q)then some (.out (.inr 3))
    else if rt (H9 (L8 p q) (L8 p q))<1000∨rt (H9 (L8 p q) (L8 p q))>1048576 then some (.out (.inr 2))
    else if i≠0∧H9 last (L8 p q)≤0 then some (.out (.inr 12))else some (.go (((i+1:Nat):Int),L8 p q)):=by
     unfold R6
     dsimp only
     rw [P0 (n:=(c.Pts.length:Int) - 1) (by omega),P0 (n:=(i:Int)+1) (by omega)]
     simp only [show (i:Int)< (c.Pts.length:Int) - 1 by omega,decide_true,l7,X0 hi,hg1,lA,Pc hp hq,Lu hv hv,Pb]
     by_cases h1:rt (H9 (L8 p q) (L8 p q))*rt (H9 (L8 p q) (L8 p q))=H9 (L8 p q) (L8 p q)
     ·simp only [h1,beq_self_eq_true,bE,l8,ne_eq,not_true_eq_false,if_false]
      by_cases h2:rt (H9 (L8 p q) (L8 p q))<1000∨rt (H9 (L8 p q) (L8 p q))>1048576
      ·rw [l9 h2]
       have:(decide (rt (H9 (L8 p q) (L8 p q))<1000)||decide (rt (H9 (L8 p q) (L8 p q))>1048576))=true:=by simpa using h2
       rw [this];rfl
      ·rw [bA h2]
       have:(decide (rt (H9 (L8 p q) (L8 p q))<1000)||decide (rt (H9 (L8 p q) (L8 p q))>1048576))=false:=by simpa using h2
       rw [this]
       simp only [l8]
       by_cases h3:i=0
       ·subst h3
        simp only [Int.natCast_zero,gt_iff_lt,Int.lt_irrefl,decide_false,l8,Bool.false_and,lA,not_true_eq_false,false_and,if_false]
        rfl
       ·have h4:(i:Int)>0:=by omega
        simp only [h4,decide_true,l7,Lu hlast hv,lA,bB,h3,not_false_eq_true,true_and]
        by_cases h5:H9 last (L8 p q)≤0<;>simp [h5]
     ·have:(rt (H9 (L8 p q) (L8 p q))*rt (H9 (L8 p q) (L8 p q))==H9 (L8 p q) (L8 p q))=false:=by simpa using h1
      simp only [this,bF,l7,ne_eq,h1,not_false_eq_true,if_true]
   rw [Rg]
   by_cases h1:rt (H9 (L8 p q) (L8 p q))*rt (H9 (L8 p q) (L8 p q))≠H9 (L8 p q) (L8 p q)
   ·rw [l9 h1]at hstep
    rw [I6 hstep,l9 h1];rfl
   ·rw [bA h1]at hstep ⊢
    by_cases h2:rt (H9 (L8 p q) (L8 p q))<1000∨rt (H9 (L8 p q) (L8 p q))>1048576
    ·rw [l9 h2]at hstep
     rw [I6 hstep,l9 h2];rfl
    ·rw [bA h2]at hstep ⊢
     by_cases h3:i=0
     ·subst h3
      rw [bA (by simp)]at hstep
      rw [R7 hstep,ih q (0+1) (L8 p q) hi1 hv]
      simp
     ·by_cases h5:H9 last (L8 p q)≤0
      ·rw [l9 ⟨h3,h5⟩]at hstep
       rw [I6 hstep]
       simp [h3,h5]
      ·rw [bA (fun h=>h5 h.2)]at hstep
       rw [R7 hstep,ih q (i+1) (L8 p q) hi1 hv]
       simp [h3,h5]
theorem Ns (c:Curve)(hl:c.Pts.length≤1000000):Az c=some (X5 c.Pts):=by
  unfold Az X5
  by_cases h1:c.Pts.length<2
  ·rw [l9 h1,show decide ((c.Pts.length:Int)<2)=true by simp;omega];rfl
  ·rw [bA h1,show decide ((c.Pts.length:Int)<2)=false by simp;omega]
   simp only [l8]
   by_cases h2:c.Pts.length>16
   ·rw [l9 h2,show decide ((c.Pts.length:Int)>16)=true by simp;omega];rfl
   ·rw [bA h2,show decide ((c.Pts.length:Int)>16)=false by simp;omega]
    simp only [l8,Xp c.Pts hl,lA]
    cases h3:c.Pts.all Ls with
    |false=>rfl
    |true=>
     simp only [bE,l8,if_true]
     cases hp:c.Pts with
     |nil=>rw [hp]at h1;simp at h1
     |cons p r=>
      have:=Wj c hl h3 r p 0 ⟨0,0⟩ (by rw [hp];rfl) ⟨by decide,by decide,by decide,by decide⟩
      rw [l9 rfl,show ((0:Nat):Int)=0 from rfl]at this
      rw [this]
      by_cases h4:CW none (p::r)=0
      ·rw [l9 h4,h4];rfl
      ·rw [bA h4];rfl
theorem IN (v w:CurveVector):H9 v w=H9 w v:=by unfold H9;rw [Int.mul_comm v.x,Int.mul_comm v.y]
theorem Ud (c:Curve)(hl:c.Pts.length≤1000000): ∀(r:List Spot) (i:Nat),c.Pts.drop i=r→loop (Z8 c) (i:Int)=some (if r.all Ls then .inl ()else .inr 2):=by
  intro r
  induction r with
  |nil=>
   intro i hi
   have:=X7 hi
   refine I6 ?_
   unfold Z8
   simp only [show ¬(i:Int)<c.Pts.length by omega,decide_false,l8,List.all_nil,if_true]
  |cons p r ih=>
   intro i hi
   have hlt:=U7 hi
   have hstep:Z8 c (i:Int)=if Ls p then some (.go ((i+1:Nat):Int))else some (.out (.inr 2)):=by
     unfold Z8
     simp only [show (i:Int)<c.Pts.length by omega,decide_true,l7,X0 hi,lA,Wi]
     cases h:Ls p with
     |true=>simp only [bE,l8,if_true];rw [P0 (by omega)];rfl
     |false=>simp
   cases h:Ls p with
   |true=>
    rw [h,l9 rfl]at hstep
    rw [R7 hstep,ih (i+1) (Q1 hi)]
    simp [h]
   |false=>
    rw [h]at hstep
    rw [I6 hstep]
    simp [h]
theorem ME {v:CurveVector}(hv:IW v): ∃l,Eg (H9 v v)=some l∧(I8 (l*l) !=H9 v v)= !(rt (H9 v v)*rt (H9 v v)==H9 v v)∧(rt (H9 v v)*rt (H9 v v)=H9 v v→l=rt (H9 v v)):=by
  have hb:=FL hv hv
  obtain ⟨l,h1,h2,h3,h4,h5⟩:=Xn (FM v) (by omega)
  have hmm:l*l≤134217728*134217728:=GQ (by omega) (by omega)
  have hmm0:=Ik l
  refine ⟨l,h1,?_,fun h=>h5 (h4.2 h)⟩
  rw [P0 (by omega)]
  by_cases h:l*l=H9 v v
  ·simp [h,h4.1 h]
  ·have h': ¬rt (H9 v v)*rt (H9 v v)=H9 v v:=fun q=>h (h4.2 q)
   have e1:(l*l !=H9 v v)=true:=bne_iff_ne.2 h
   have e2:(rt (H9 v v)*rt (H9 v v)==H9 v v)=false:=beq_eq_false_iff_ne.2 h'
   rw [e1,e2];rfl
theorem Ue (c:Curve)(hl:c.Pts.length≤1000000)(hok:c.Pts.all Ls=true): ∀(r:List Spot) (p:Spot) (i:Nat) (last:Option CurveVector),c.Pts.drop i=p::r→
    (i=0∧last=none∨∃j a,i=j+1∧c.Pts.drop j=a::p::r∧last=some (L8 a p))→
    loop (Z7 c) (i:Int)=some (if CW last (p::r)=0 then .inl ()else .inr (CW last (p::r))):=by
  intro r
  induction r with
  |nil=>
   intro p i last hi hlast
   have hlt:=U7 hi
   have:=X7 (Q1 hi)
   refine I6 ?_
   unfold Z7
   rw [P0 (n:=(i:Int)+1) (by omega)]
   simp only [show ¬(i:Int)+1< (c.Pts.length:Int) by omega,decide_false,l8,CW,if_true]
  |cons q r ih=>
   intro p i last hi hlast
   have hlt:=U7 hi
   have hi1:=Q1 hi
   have hlt1:=U7 hi1
   have hp:Ls p=true:=lV.1 hok p (List.mem_of_mem_drop (i:=i) (by rw [hi];simp))
   have hq:Ls q=true:=lV.1 hok q (List.mem_of_mem_drop (i:=i) (by rw [hi];simp))
   have hv:=Rf hp hq
   have hg1:D6 c.Pts ((i:Int)+1)=some q:=by have:=X0 hi1;simpa using this
   obtain ⟨l,hl1,hl2,hl3⟩:=ME hv
   have hstep:Z7 c (i:Int)=
    if rt (H9 (L8 p q) (L8 p q))*rt (H9 (L8 p q) (L8 p q))≠H9 (L8 p q) (L8 p q)then some (.out (.inr 3))
    else if rt (H9 (L8 p q) (L8 p q))<1000∨rt (H9 (L8 p q) (L8 p q))>1048576 then some (.out (.inr 2))
    else match last with
      |some u=>if H9 u (L8 p q)≤0 then some (.out (.inr 12))else some (.go ((i+1:Nat):Int))
      |none=>some (.go ((i+1:Nat):Int)):=by
     unfold Z7
     rw [P0 (n:=(i:Int)+1) (by omega)]
     simp only [show (i:Int)+1< (c.Pts.length:Int) by omega,decide_true,l7,X0 hi,hg1,lA,Jp hp hq,Lv hv hv,hl1,hl2]
     by_cases h1:rt (H9 (L8 p q) (L8 p q))*rt (H9 (L8 p q) (L8 p q))=H9 (L8 p q) (L8 p q)
     ·simp only [h1,beq_self_eq_true,bE,l8,ne_eq,not_true_eq_false,if_false,hl3 h1]
      by_cases h2:rt (H9 (L8 p q) (L8 p q))<1000∨rt (H9 (L8 p q) (L8 p q))>1048576
      ·rw [l9 h2]
       have:(decide (rt (H9 (L8 p q) (L8 p q))<1000)||decide (rt (H9 (L8 p q) (L8 p q))>1048576))=true:=by simpa using h2
       rw [this];rfl
      ·rw [bA h2]
       have:(decide (rt (H9 (L8 p q) (L8 p q))<1000)||decide (rt (H9 (L8 p q) (L8 p q))>1048576))=false:=by simpa using h2
       rw [this]
       simp only [l8]
       rcases hlast with ⟨rfl,rfl⟩|⟨j,a,rfl,hj,rfl⟩
       ·simp only [Int.natCast_zero,gt_iff_lt,Int.lt_irrefl,decide_false,l8,Bool.false_and,lA]
        rfl
       ·have h4:(((j+1:Nat):Int))>0:=by omega
        have ha:Ls a=true:=lV.1 hok a (List.mem_of_mem_drop (i:=j) (by rw [hj];simp))
        have hva:=Rf ha hp
        have hgj:D6 c.Pts (I8 (((j+1:Nat):Int) - 1))=some a:=by
          rw [P0 (by omega),show (((j+1:Nat):Int) - 1)=(j:Int) by omega]
          exact X0 hj
        simp only [h4,decide_true,l7,hgj,lA,Jp ha hp,Lv hv hva,bB]
        rw [IN (L8 p q) (L8 a p)]
        by_cases h5:H9 (L8 a p) (L8 p q)≤0
        ·simp [h5]
        ·simp [h5]
     ·have:(rt (H9 (L8 p q) (L8 p q))*rt (H9 (L8 p q) (L8 p q))==H9 (L8 p q) (L8 p q))=false:=by simpa using h1
      simp only [this,bF,l7,ne_eq,h1,not_false_eq_true,if_true]
   rw [Rg]
   have hrec:=ih q (i+1) (some (L8 p q)) hi1 (.inr ⟨i,p,rfl,hi,rfl⟩)
   by_cases h1:rt (H9 (L8 p q) (L8 p q))*rt (H9 (L8 p q) (L8 p q))≠H9 (L8 p q) (L8 p q)
   ·rw [l9 h1]at hstep
    rw [I6 hstep,l9 h1];rfl
   ·rw [bA h1]at hstep ⊢
    by_cases h2:rt (H9 (L8 p q) (L8 p q))<1000∨rt (H9 (L8 p q) (L8 p q))>1048576
    ·rw [l9 h2]at hstep
     rw [I6 hstep,l9 h2];rfl
    ·rw [bA h2]at hstep ⊢
     cases last with
     |none=>rw [R7 hstep,hrec]
     |some u=>
      dsimp only at hstep ⊢
      by_cases h5:H9 u (L8 p q)≤0
      ·rw [l9 h5]at hstep
       rw [I6 hstep];simp [h5]
      ·rw [bA h5]at hstep
       rw [R7 hstep,hrec];simp [h5]
theorem Nt (c:Curve)(hl:c.Pts.length≤1000000):Fy c=some (X5 c.Pts):=by
  unfold Fy X5
  by_cases h1:c.Pts.length<2
  ·rw [l9 h1,show decide ((c.Pts.length:Int)<2)=true by simp;omega];rfl
  ·rw [bA h1,show decide ((c.Pts.length:Int)<2)=false by simp;omega]
   simp only [l8]
   by_cases h2:c.Pts.length>16
   ·rw [l9 h2,show decide ((c.Pts.length:Int)>16)=true by simp;omega];rfl
   ·rw [bA h2,show decide ((c.Pts.length:Int)>16)=false by simp;omega]
    have hg:=Ud c hl c.Pts 0 (by simp)
    rw [show ((0:Nat):Int)=0 from rfl]at hg
    simp only [l8,hg]
    cases h3:c.Pts.all Ls with
    |false=>rfl
    |true=>
     simp only [if_true,thenS]
     cases hp:c.Pts with
     |nil=>rw [hp]at h1;simp at h1
     |cons p r=>
      have:=Ue c hl h3 r p 0 none (by rw [hp];rfl) (.inl ⟨rfl,rfl⟩)
      rw [show ((0:Nat):Int)=0 from rfl]at this
      rw [this]
      by_cases h4:CW none (p::r)=0
      ·rw [l9 h4,h4]
      ·rw [bA h4]
/-- What a valid chain is. -/
inductive Good:Option CurveVector→List Spot→Prop
  |one (last:Option CurveVector) (p:Spot):Good last [p]
  |cons (last:Option CurveVector) (p q:Spot) (r:List Spot) (h1:rt (H9 (L8 p q) (L8 p q))*rt (H9 (L8 p q) (L8 p q))=H9 (L8 p q) (L8 p q)) (h2:1000≤rt (H9 (L8 p q) (L8 p q))) (h3:rt (H9 (L8 p q) (L8 p q))≤1048576)
     (h4: ∀u,last=some u→0<H9 u (L8 p q)) (h:Good (some (L8 p q)) (q::r)):Good last (p::q::r)
theorem CX: ∀(r:List Spot) (p:Spot) (last:Option CurveVector),CW last (p::r)=0→Good last (p::r):=by
  intro r
  induction r with
  |nil=>intro p last _;exact .one _ _
  |cons q r ih=>
   intro p last h
   rw [Rg]at h
   split at h
   ·cases h
   ·rename_i h1
    split at h
    ·cases h
    ·rename_i h2
     have h1:rt (H9 (L8 p q) (L8 p q))*rt (H9 (L8 p q) (L8 p q))=H9 (L8 p q) (L8 p q):=by simpa using h1
     cases last with
     |none=>exact .cons _ _ _ _ h1 (by omega) (by omega) (fun u hu=>by cases hu) (ih q _ h)
     |some u=>
      dsimp only at h
      split at h
      ·cases h
      ·exact .cons _ _ _ _ h1 (by omega) (by omega) (fun u' hu=>by cases hu;omega) (ih q _ h)
theorem CY {last:Option CurveVector}{l:List Spot}(h:Good last l):CW last l=0:=by
  induction h with
  |one=>rfl
  |cons last p q r h1 h2 h3 h4 h ih=>
   rw [Rg,bA (by simpa using h1),bA (by omega)]
   cases last with
   |none=>exact ih
   |some u=>dsimp only;rw [bA (by have:=h4 u rfl;omega)];exact ih
structure Valid (l:List Spot):Prop where
  two:2≤l.length
  most:l.length≤16
  ok:l.all Ls=true
  good:Good none l
theorem checkM_zero {l:List Spot}:X5 l=0↔Valid l:=by
  unfold X5
  constructor
  ·intro h
   split at h
   ·cases h
   ·rename_i h1
    split at h
    ·cases h
    ·rename_i h2
     split at h
     ·rename_i h3
      cases l with
      |nil=>simp at h1
      |cons p r=>exact ⟨by omega,by omega,h3,CX r p none h⟩
     ·cases h
  ·rintro ⟨h1,h2,h3,h4⟩
   rw [bA (by omega),bA (by omega),l9 h3]
   exact CY h4
/-- The pieces of a chain: the number, the piece. -/
noncomputable def Lw:Nat→Int→List Spot→List (Int×CurvePiece)
  |i,s,p::q::r=>((i:Int),⟨p,L8 p q,rt (H9 (L8 p q) (L8 p q)),s⟩)::Lw (i+1) (I8 (s+rt (H9 (L8 p q) (L8 p q)))) (q::r)
  |_,_,_=> []
theorem Rh (i:Nat)(s:Int)(p q:Spot)(r:List Spot):Lw i s (p::q::r)=((i:Int),⟨p,L8 p q,rt (H9 (L8 p q) (L8 p q)),s⟩)::Lw (i+1) (I8 (s+rt (H9 (L8 p q) (L8 p q)))) (q::r):=by conv=>lhs;unfold Lw
theorem CZ (pts:List Spot)(hok:pts.all Ls=true): ∀(r:List Spot) (p:Spot) (i:Nat) (s:Int),pts.drop i=p::r→Df pts r.length i s=some (Lw i s (p::r)):=by
  intro r
  induction r with
  |nil=>intro p i s _;rfl
  |cons q r ih=>
   intro p i s hi
   have hi1:=Q1 hi
   have hp:Ls p=true:=lV.1 hok p (List.mem_of_mem_drop (i:=i) (by rw [hi];simp))
   have hq:Ls q=true:=lV.1 hok q (List.mem_of_mem_drop (i:=i) (by rw [hi];simp))
   have hv:=Rf hp hq
   have h0:pts[i]? =some p:=by have:=congrArg (fun z=>z[0]?) hi;simpa using this
   have h1:pts[i+1]? =some q:=by have:=congrArg (fun z=>z[0]?) hi1;simpa using this
   rw [lJ,Df,h0,h1]
   simp only [lA,Pc hp hq,Lu hv hv,Pb]
   rw [ih q (i+1) _ hi1,Rh]
   rfl
theorem FN {pts:List Spot}(h:Valid pts):Kb pts=some (Lw 0 0 pts):=by
  unfold Kb
  have:=h.most
  rw [l9 (by omega)]
  cases hp:pts with
  |nil=>have:=h.two;rw [hp]at this;simp at this
  |cons p r=>exact CZ (p::r) (by rw [← hp];exact h.ok) r p 0 0 rfl
/-- The lengths. -/
noncomputable def Ol:List Spot→List Int
  |p::q::r=>rt (H9 (L8 p q) (L8 p q))::Ol (q::r)
  |_=> []
theorem Kw (p q:Spot)(r:List Spot):Ol (p::q::r)=rt (H9 (L8 p q) (L8 p q))::Ol (q::r):=by conv=>lhs;unfold Ol
theorem Kf: ∀(r:List Spot) (p:Spot),(Ol (p::r)).length=r.length
  | [],_=>rfl
  |q::r,p=>by rw [Kw,lJ,Kf r q,lJ]
theorem Ri: ∀(r:List Spot) (p:Spot) (i:Nat) (s:Int),(Lw i s (p::r)).map (·.2.l)=Ol (p::r)
  | [],_,_,_=>rfl
  |q::r,p,i,s=>by rw [Rh,Kw,lO,Ri r q]
theorem DA: ∀(L:List (Int×CurvePiece)) (out:List Int),out.length+L.length≤1000000000→loopL An (fun x=>x) L out=some (out++L.map (·.2.l)):=by
  intro L
  induction L with
  |nil=>intro out _;simp [loopL]
  |cons a L ih=>
   intro out h
   simp only [lJ]at h
   have:An out a=some (.go (out++ [a.2.l])):=by
     unfold An
     rw [Fk (by simp;omega)];rfl
   rw [loopL,this]
   dsimp only
   rw [ih _ (by simp;omega)]
   simp
theorem Uf (c:Curve)(hl:c.Pts.length≤1000000):Ba c=some (if X5 c.Pts=0 then Ol c.Pts else []):=by
  unfold Ba
  rw [Ns c hl,lA]
  by_cases h:X5 c.Pts=0
  ·rw [l9 h,h]
   have hv:=checkM_zero.1 h
   have:=hv.most
   simp only [bne_self_eq_false,l8,FN hv,lA]
   cases hp:c.Pts with
   |nil=>have:=hv.two;rw [hp]at this;simp at this
   |cons p r=>
    have e:=Ri r p 0 0
    rw [DA _ _ (by
     have:=congrArg List.length e
     rw [lP,Kf]at this
     rw [this];rw [hp]at hl;simp at hl ⊢;omega)]
    rw [e];rfl
  ·rw [bA h,show (X5 c.Pts !=0)=true from bne_iff_ne.2 h];rfl
theorem Rj (c:Curve)(hl:c.Pts.length≤1000000)(hok:c.Pts.all Ls=true): ∀(r:List Spot) (p:Spot) (i:Nat) (out:List Int) (last:Option CurveVector),c.Pts.drop i=p::r→Good last (p::r)→out.length+r.length≤1000000→
    loop (X4 c) (out,(i:Int))=some (out++Ol (p::r)):=by
  intro r
  induction r with
  |nil=>
   intro p i out last hi _ _
   have hlt:=U7 hi
   have:=X7 (Q1 hi)
   refine I6 ?_
   unfold X4
   dsimp only
   rw [P0 (n:=(i:Int)+1) (by omega)]
   simp only [show ¬(i:Int)+1< (c.Pts.length:Int) by omega,decide_false,l8,Ol,List.append_nil]
  |cons q r ih=>
   intro p i out last hi hg ho
   have hlt:=U7 hi
   have hi1:=Q1 hi
   have hlt1:=U7 hi1
   have hp:Ls p=true:=lV.1 hok p (List.mem_of_mem_drop (i:=i) (by rw [hi];simp))
   have hq:Ls q=true:=lV.1 hok q (List.mem_of_mem_drop (i:=i) (by rw [hi];simp))
   have hv:=Rf hp hq
   have hg1:D6 c.Pts ((i:Int)+1)=some q:=by have:=X0 hi1;simpa using this
   obtain ⟨l,hl1,hl2,hl3⟩:=ME hv
   cases hg with
   |cons _ _ _ _ h1 h2 h3 h4 hg=>
    have hll:=hl3 h1
    subst hll
    simp only [lJ]at ho
    have hstep:X4 c (out,(i:Int))=some (.go (out++ [rt (H9 (L8 p q) (L8 p q))],((i+1:Nat):Int))):=by
      unfold X4
      dsimp only
      rw [P0 (n:=(i:Int)+1) (by omega)]
      simp only [show (i:Int)+1< (c.Pts.length:Int) by omega,decide_true,l7,X0 hi,hg1,lA,Jp hp hq,Lv hv hv,hl1]
      rw [Fk (by simp;omega)]
      rfl
    rw [R7 hstep,ih q (i+1) _ _ hi1 hg (by simp;omega),Kw]
    simp
theorem Ug (c:Curve)(hl:c.Pts.length≤1000000):Gn c=some (if X5 c.Pts=0 then Ol c.Pts else []):=by
  unfold Gn
  rw [Nt c hl,lA]
  by_cases h:X5 c.Pts=0
  ·rw [l9 h,h]
   have hv:=checkM_zero.1 h
   simp only [bne_self_eq_false,l8]
   cases hp:c.Pts with
   |nil=>have:=hv.two;rw [hp]at this;simp at this
   |cons p r=>
    have:=Rj c hl hv.ok r p 0 [] none (by rw [hp];rfl) (by rw [← hp];exact hv.good) (by rw [hp]at hl;simp at hl ⊢;omega)
    rw [show ((0:Nat):Int)=0 from rfl]at this
    rw [this];rfl
  ·rw [bA h,show (X5 c.Pts !=0)=true from bne_iff_ne.2 h];rfl
/-- A sum, as the programs take it. -/
def Py:Int→List Int→Int
  |s,[]=>s
  |s,a::l=>Py (I8 (s+a)) l
theorem Rk (l:List Int)(hl:l.length≤1000000): ∀(r:List Int) (i:Nat) (s:Int),l.drop i=r→loop (U3 l) (s,(i:Int))=some (Py s r):=by
  intro r
  induction r with
  |nil=>
   intro i s hi
   have:=X7 hi
   refine I6 ?_
   unfold U3
   simp only [show ¬(i:Int)<l.length by omega,decide_false,l8,Py]
  |cons a r ih=>
   intro i s hi
   have hlt:=U7 hi
   have hstep:U3 l (s,(i:Int))=some (.go (I8 (s+a),((i+1:Nat):Int))):=by
     unfold U3
     simp only [show (i:Int)<l.length by omega,decide_true,l7,X0 hi,lA]
     rw [P0 (n:=(i:Int)+1) (by omega)];rfl
   rw [R7 hstep,ih (i+1) _ (Q1 hi),Py]
theorem Rl (l:List Int)(hl:l.length≤1000000): ∀(r:List Int) (i:Nat) (s:Int),l.drop i=r→loop (U4 l) (s,(i:Int))=some (Py s r):=by
  intro r
  induction r with
  |nil=>
   intro i s hi
   have:=X7 hi
   refine I6 ?_
   unfold U4
   simp only [show ¬(i:Int)<l.length by omega,decide_false,l8,Py]
  |cons a r ih=>
   intro i s hi
   have hlt:=U7 hi
   have hstep:U4 l (s,(i:Int))=some (.go (I8 (s+a),((i+1:Nat):Int))):=by
     unfold U4
     simp only [show (i:Int)<l.length by omega,decide_true,l7,X0 hi,lA]
     rw [P0 (n:=(i:Int)+1) (by omega)];rfl
   rw [R7 hstep,ih (i+1) _ (Q1 hi),Py]
noncomputable def Fl (c:Curve):List Int:=if X5 c.Pts=0 then Ol c.Pts else []
theorem PJ: ∀l:List Spot,(Ol l).length≤l.length
  | []=>by simp [Ol]
  |p::r=>by rw [Kf];simp
theorem Wk (c:Curve):(Fl c).length≤c.Pts.length:=by
  unfold Fl
  split
  ·exact PJ _
  ·simp
theorem Uh (c:Curve)(hl:c.Pts.length≤1000000):Bb c=some (Py 0 (Fl c)):=by
  unfold Bb
  rw [Uf c hl,lA]
  have:=Wk c
  have h:=Rk (Fl c) (by omega) (Fl c) 0 0 (by simp)
  rw [show ((0:Nat):Int)=0 from rfl]at h
  show (loop (U3 (Fl c)) (0,0)).bind _=_
  rw [h];rfl
theorem Ui (c:Curve)(hl:c.Pts.length≤1000000):Cx c=some (Py 0 (Fl c)):=by
  unfold Cx
  rw [Ug c hl,lA]
  have:=Wk c
  have h:=Rl (Fl c) (by omega) (Fl c) 0 0 (by simp)
  rw [show ((0:Nat):Int)=0 from rfl]at h
  show (loop (U4 (Fl c)) (0,0)).bind _=_
  rw [h];rfl
/-- A quarter turn, so many times. -/
def IO:Nat→CurveVector→CurveVector
  |0,v=>v
  |n+1,v=>IO n ⟨-v.y,v.x⟩
theorem AH: ∀(n:Nat) (v w:CurveVector),H9 (IO n v) (IO n w)=H9 v w
  |0,_,_=>rfl
  |n+1,v,w=>by rw [IO,IO,AH n];unfold H9;grind
/-- A piece's vector, made of numbers: in one quadrant. -/
def SC (n:Nat)(v:CurveVector):Prop:= ∃x y L:Int,v=IO n ⟨x,y⟩∧0<x∧0≤y∧x*x+y*y=L*L∧1000≤L∧L≤3029∧x≤L∧y≤L
inductive Ch (Q:CurveVector→Prop):List Spot→Prop
  |one (p:Spot):Ch Q [p]
  |cons (p q:Spot) (r:List Spot) (h:Q (L8 p q)) (hr:Ch Q (q::r)):Ch Q (p::q::r)
theorem Wl {n:Nat}: ∀(r:List Spot) (p:Spot) (last:Option CurveVector),Ch (SC n) (p::r)→(∀u,last=some u→SC n u)→Good last (p::r)
  | [],p,last,_,_=> .one _ _
  |q::r,p,last,hc,hl=>by
   cases hc with
   |cons _ _ _ h1 h2=>
    have hq:=h1
    obtain ⟨x,y,L,hv,hx,hy,hsq,hL1,hL2,hxL,hyL⟩:=h1
    have hd:H9 (L8 p q) (L8 p q)=L*L:=by rw [hv,AH];unfold H9;exact hsq
    have hrt:rt (H9 (L8 p q) (L8 p q))=L:=by rw [hd];exact MD (by omega) (by omega)
    refine .cons _ _ _ _ (by rw [hrt,hd]) (by rw [hrt];exact hL1) (by rw [hrt];omega) (fun u hu=> ?_) (Wl r q _ h2 (fun u hu=>by cases hu;exact hq))
    obtain ⟨x',y',L',hv',hx',hy',_⟩:=hl u hu
    rw [hv,hv',AH]
    unfold H9
    have:=Int.mul_pos hx' hx
    have:=bP hy' hy
    dsimp only
    omega
/-- What the curves made of numbers are like. -/
structure Made (l:List Spot):Prop where
  two:2≤l.length
  six:l.length≤6
  ch: ∃n,Ch (SC n) l
  bd: ∀p∈l, -50000≤p.X∧p.X≤50000∧ -50000≤p.Y∧p.Y≤50000
theorem Made.valid {l:List Spot}(h:Made l):Valid l:=by
  obtain ⟨n,hc⟩:=h.ch
  have:=h.two;have:=h.six
  refine ⟨h.two,by omega,lV.2 fun p hp=>okS_iff.2 (by have:=h.bd p hp;omega),?_⟩
  match l,h,hc with
  |p::r,_,hc=>exact Wl r p none hc (fun u hu=>by cases hu)
  | [],h,_=>exact absurd h.two (by simp)
/-! ### Loops that look for the first error -/
def I3 {α β:Type}(g:Nat→α→Option β):Nat→List α→Option β
  |_,[]=>none
  |i,a::r=>match g i a with
   |some e=>some e
   |none=>I3 g (i+1) r
def FO {β:Type}:Option β→Sum Unit β
  |some e=> .inr e
  |none=> .inl ()
theorem Ds {α β:Type}(l:List α)(F:Int→Option (Stp Int (Sum Unit β)))(g:Nat→α→Option β)(hF: ∀(i:Nat) a,l[i]? =some a→F (i:Int)=some (match g i a with|some e=> .out (.inr e)|none=> .go ((i+1:Nat):Int)))(h0:F (l.length:Int)=some (.out (.inl ()))):
    loop F 0=some (FO (I3 g 0 l)):=by
  have key: ∀(r:List α) (i:Nat),l.drop i=r→i≤l.length→loop F (i:Int)=some (FO (I3 g i r)):=by
    intro r
    induction r with
    |nil=>
     intro i hi hil
     have:i=l.length:=by have:=List.drop_eq_nil_iff.1 hi;omega
     subst this
     exact I6 h0
    |cons a r ih=>
     intro i hi hil
     have hlt:i<l.length:=by
       rcases Nat.lt_or_ge i l.length with q|q
       ·exact q
       ·rw [List.drop_eq_nil_of_le q]at hi;cases hi
     have ha:l[i]? =some a:=by have:=congrArg (fun z=>z[0]?) hi;simpa using this
     have hr:l.drop (i+1)=r:=by have:=congrArg (fun z=>z.drop 1) hi;simpa using this
     have hs:=hF i a ha
     unfold I3
     cases hg:g i a with
     |some e=>rw [hg]at hs;exact I6 hs
     |none=>rw [hg]at hs;rw [R7 hs];exact ih (i+1) hr (by omega)
  have:=key l 0 rfl (by omega)
  exact this
theorem firstE_none {α β:Type}{g:Nat→α→Option β}: ∀{l:List α} {i:Nat},I3 g i l=none↔∀(j:Nat) a,l[j]? =some a→g (i+j) a=none
  | [],i=>by simp [I3]
  |a::r,i=>by
   unfold I3
   cases h:g i a with
   |some e=>
    constructor
    ·intro h';cases h'
    ·intro h';have:=h' 0 a rfl;rw [Nat.add_zero,h]at this;cases this
   |none=>
    dsimp only
    rw [firstE_none (l:=r)]
    constructor
    ·intro h' j b hj
     cases j with
     |zero=>cases hj;exact h
     |succ j=>have:=h' j b hj;rwa [show i+1+j=i+ (j+1) by omega]at this
    ·intro h' j b hj
     have:=h' (j+1) b hj
     rwa [show i+ (j+1)=i+1+j by omega]at this
/-! ### Numbers -/
def Pd (n a b:Int):Bool:=decide (a≤n)&&decide (n≤b)
theorem Io (n a b:Int):Q7 n a b=some (Pd n a b):=rfl
theorem Jq (n a b:Int):Y4 n a b=some (Pd n a b):=rfl
def Lx (kind:Int):Int×Int×Int:=if kind=1 then (2000,30,90)else if kind=2 then (1000,20,60)else if kind=3 then (300,100,300)else (0,0,0)
theorem Yt (k:Int):En k=some (Lx k):=by
  unfold En Lx
  by_cases h:k<0∨k≥4
  ·rw [show ((decide (k<0))||(decide (k≥4)))=true by simpa using h,l7,bA (by omega),bA (by omega),bA (by omega)]
  ·rw [show ((decide (k<0))||(decide (k≥4)))=false by rw [bG];simpa using h,l8]
   obtain ⟨h1,h2⟩:=not_or.1 h
   rcases (show k=0∨k=1∨k=2∨k=3 by omega)with rfl|rfl|rfl|rfl<;>rfl
theorem Wm (k:Int):Ey k=some (Lx k):=by
  unfold Ey Lx
  by_cases h1:k=1
  ·subst h1;rfl
  ·by_cases h2:k=2
   ·subst h2;rfl
   ·by_cases h3:k=3
    ·subst h3;rfl
    ·rw [bA h1,bA h2,bA h3]
     rw [show (k==1)=false by simpa using h1,show (k==2)=false by simpa using h2,show (k==3)=false by simpa using h3];rfl
theorem FP {n:Int}(h: -9223372036854775808≤n∧n≤9223372036854775807):I8 n=n:=Go.IntWalk.i64_in n h
theorem D1 {α:Type}{l:List α}{i:Nat}{a:α}(h:l[i]? =some a):D6 l (i:Int)=some a:=by
  unfold D6;rw [l9 (by omega),Int.toNat_natCast];exact h
theorem H5 {α:Type}{l:List α}{i:Nat}{a:α}(h:l[i]? =some a):i<l.length:=(lH.1 h).1
theorem Uo {α:Type}(c:Bool)(a b:α):cond c (some a) (some b)=some (cond c a b):=by cases c<;>rfl
def Ae (high:Int):Int→List Int→Bool
  |_,[]=>true
  |low,n::r=>decide (low≤n)&&decide (n<high)&&Ae high (n+1) r
theorem Sq (l:List Int)(low high:Int)(hl:l.length≤1000000)(hh:high≤1000000000)(h0:0≤low):W2 l low high=some (Ae high low l):=by
  have key: ∀(r:List Int) (i:Nat) (lo:Int),0≤lo→l.drop i=r→i≤l.length→loop (X2 l high) (lo,(i:Int))=some (if Ae high lo r then .inl ()else .inr false):=by
    intro r
    induction r with
    |nil=>
     intro i lo _ hi hil
     have:=X7 hi
     refine I6 ?_
     unfold X2
     dsimp only
     rw [show decide ((i:Int)< (l.length:Int))=false from l5 (by omega)];rfl
    |cons n r ih=>
     intro i lo hlo hi hil
     have hlt:=U7 hi
     have hs:X2 l high (lo,(i:Int))=some (if decide (lo≤n)&&decide (n<high)then .go (n+1,((i+1:Nat):Int))else .out (.inr false)):=by
       unfold X2
       dsimp only
       rw [show decide ((i:Int)< (l.length:Int))=true from l4 (by omega),X0 hi,l7,lA,FP (n:=(i:Int)+1) (by omega)]
       by_cases q:lo≤n∧n<high
       ·rw [show ((decide (n<lo))||(decide (n≥high)))=false by rw [bG];simp;omega,l8,FP (n:=n+1) (by omega),l9 (by simpa using q)];rfl
       ·rw [show ((decide (n<lo))||(decide (n≥high)))=true by simp;omega,l7,bA (by simpa using q)]
     unfold Ae
     cases q:(decide (lo≤n)&&decide (n<high))
     ·rw [q]at hs;rw [I6 hs];rfl
     ·rw [q]at hs
      simp only [bC,l6]at q
      rw [R7 hs,ih (i+1) (n+1) (by omega) (Q1 hi) (by omega)];rfl
  unfold W2
  have:=key l 0 low h0 rfl (by omega)
  rw [show ((0:Nat):Int)=0 from rfl]at this
  rw [this]
  cases Ae high low l<;>rfl
theorem Pz (l:List Int)(low high:Int)(hl:l.length≤1000000):Bo l low high=some (Ae high low l):=by
  have key: ∀(r:List Int) (i:Nat) (lo:Int),low≤lo→(i=0→lo=low)→(0<i→l[i - 1]? =some (lo - 1))→l.drop i=r→i≤l.length→loop (V5 l low high) (i:Int)=some (if Ae high lo r then .inl ()else .inr false):=by
    intro r
    induction r with
    |nil=>
     intro i lo _ _ _ hi hil
     have:=X7 hi
     refine I6 ?_
     unfold V5
     rw [show decide ((i:Int)< (l.length:Int))=false from l5 (by omega)];rfl
    |cons n r ih=>
     intro i lo hlo h0 h1 hi hil
     have hlt:=U7 hi
     have hn:l[i]? =some n:=by have:=congrArg (fun z=>z[0]?) hi;simpa using this
     have hs:V5 l low high (i:Int)=some (if decide (lo≤n)&&decide (n<high)then .go ((i+1:Nat):Int)else .out (.inr false)):=by
       unfold V5
       rw [show decide ((i:Int)< (l.length:Int))=true from l4 (by omega),X0 hi,l7,lA,Uo,lA,Uo,lA,FP (n:=(i:Int)+1) (by omega)]
       by_cases q1:n<low
       ·rw [l4 q1,bA (by simp;omega)];rfl
       ·rw [l5 q1]
        simp only [bF,l7,Bool.false_or]
        by_cases q2:n≥high
        ·rw [l4 q2,bA (by simp;omega)];rfl
        ·rw [l5 q2]
         simp only [bF,bB,Bool.false_or]
         by_cases q3:(i:Int)>0
         ·have e:D6 l (I8 ((i:Int) - 1))=some (lo - 1):=by
            rw [FP (n:=(i:Int) - 1) (by omega),show (i:Int) - 1=((i - 1:Nat):Int) by omega]
            exact D1 (h1 (by omega))
          rw [l4 q3,l7,l7,e,lA,bB]
          by_cases q4:n≤lo - 1
          ·rw [l4 q4,bA (by simp;omega)];rfl
          ·rw [l5 q4,l9 (by simp;omega)];rfl
         ·have:lo=low:=h0 (by omega)
          rw [l5 q3,l8,lA,Bool.false_and,l9 (by simp;omega)];rfl
     unfold Ae
     cases q:(decide (lo≤n)&&decide (n<high))
     ·rw [q]at hs;rw [I6 hs];rfl
     ·rw [q]at hs
      simp only [bC,l6]at q
      rw [R7 hs,ih (i+1) (n+1) (by omega) (fun z=>by omega) (fun _=>by rw [Nat.add_sub_cancel,hn];congr 1;omega) (Q1 hi) (by omega)];rfl
  unfold Bo
  have:=key l 0 low (Int.le_refl _) (fun _=>rfl) (fun z=>by omega) rfl (by omega)
  rw [show ((0:Nat):Int)=0 from rfl]at this
  rw [this]
  cases Ae high low l<;>rfl
noncomputable def MF (c:Curve):Int:=Py 0 (Fl c)
theorem PK {m:Map}{i:Nat}{l:Lane}(h:m.Lanes[i]? =some l)(hl:l.Curve_.Pts.length≤1000000):T5 m (i:Int)=some (MF l.Curve_):=by
  unfold T5
  rw [D1 h,lA,Uh _ hl];rfl
/-- The lists of a map are of bearable lengths. -/
structure Bear (m:Map):Prop where
  lanes:m.Lanes.length≤1000000
  pts: ∀l∈m.Lanes,l.Curve_.Pts.length≤1000000∧l.Next.length≤1000000
noncomputable def laneE (n:Nat)(i:Nat)(l:Lane):Option Int:=
  if (Lx l.Kind).1=0 then some 4
  else if X5 l.Curve_.Pts≠0 then some (X5 l.Curve_.Pts)
  else if (Pd l.Half 200 4000&&Pd l.Limit 1 (Lx l.Kind).1)=false then some 2
  else if 3<l.Next.length then some 8
  else if Ae n (i+1) l.Next=false then some 11 else none
theorem MG {m:Map}(B:Bear m):P8 ⟨m⟩=some ((I3 (laneE m.Lanes.length) 0 m.Lanes).getD 0):=by
  have h:=Ds m.Lanes (M2 ⟨m⟩) (laneE m.Lanes.length) (fun i l hl=>by
    have hi:=H5 hl
    have hb:=B.lanes
    obtain ⟨p1,p2⟩:=B.pts l (lF hl)
    unfold M2 laneE
    dsimp only
    rw [show decide ((i:Int)< (m.Lanes.length:Int))=true from l4 (by omega),D1 hl,l7,lA,Yt,lA,Ns _ p1,lA,Io,Io,lA,Uo,lA,FP (n:=(i:Int)+1) (by omega),Sq _ _ _ p2 (by omega) (by omega),lA]
    by_cases h1:(Lx l.Kind).1=0
    ·rw [l9 h1,show ((Lx l.Kind).1==0)=true by simpa using h1];rfl
    ·rw [bA h1,show ((Lx l.Kind).1==0)=false by simpa using h1,l8]
     by_cases h2:X5 l.Curve_.Pts≠0
     ·rw [l9 h2,show (X5 l.Curve_.Pts !=0)=true by simpa using h2];rfl
     ·rw [bA h2,show (X5 l.Curve_.Pts !=0)=false by simpa using h2,l8]
      cases Pd l.Half 200 4000
      ·rfl
      ·cases Pd l.Limit 1 (Lx l.Kind).1
       ·rfl
       ·simp only [bE,bF,l7,l8,Bool.false_or,Bool.and_self]
        rw [bA (by decide)]
        by_cases h3:3<l.Next.length
        ·rw [l9 h3,show decide ((l.Next.length:Int)>3)=true from l4 (by omega)];rfl
        ·rw [bA h3,show decide ((l.Next.length:Int)>3)=false from l5 (by omega),l8]
         cases Ae (m.Lanes.length:Int) ((i:Int)+1) l.Next<;>rfl) (by
    unfold M2
    dsimp only
    rw [show decide ((m.Lanes.length:Int)< (m.Lanes.length:Int))=false from l5 (by omega)];rfl)
  unfold P8
  rw [h]
  cases I3 (laneE m.Lanes.length) 0 m.Lanes<;>rfl
theorem MH (k:Int):((decide (k<1))||(decide (k>3)))=decide ((Lx k).1=0):=by
  unfold Lx
  by_cases h1:k=1
  ·subst h1;rfl
  ·by_cases h2:k=2
   ·subst h2;rfl
   ·by_cases h3:k=3
    ·subst h3;rfl
    ·rw [bA h1,bA h2,bA h3]
     simp only [decide_true,bD,l6]
     omega
theorem MI {m:Map}(B:Bear m){i:Nat}{l:Lane}(hl:m.Lanes[i]? =some l):Dh m (i:Int)=some ((laneE m.Lanes.length i l).getD 0):=by
  have hi:=H5 hl
  have hb:=B.lanes
  obtain ⟨p1,p2⟩:=B.pts l (lF hl)
  unfold Dh laneE
  rw [D1 hl,lA,MH,Nt _ p1,lA,Wm,lA,Jq,Jq,lA,Uo,lA,FP (n:=(i:Int)+1) (by omega),Pz _ _ _ p2,lA]
  by_cases h1:(Lx l.Kind).1=0
  ·rw [l9 h1,l4 h1];rfl
  ·rw [bA h1,l5 h1,l8]
   by_cases h2:X5 l.Curve_.Pts≠0
   ·rw [l9 h2,show (X5 l.Curve_.Pts !=0)=true by simpa using h2];rfl
   ·rw [bA h2,show (X5 l.Curve_.Pts !=0)=false by simpa using h2,l8]
    cases Pd l.Half 200 4000
    ·rfl
    ·cases Pd l.Limit 1 (Lx l.Kind).1
     ·rfl
     ·simp only [bE,bF,l7,l8,Bool.false_or,Bool.and_self]
      rw [bA (by decide)]
      by_cases h3:3<l.Next.length
      ·rw [l9 h3,show decide ((l.Next.length:Int)>3)=true from l4 (by omega)];rfl
      ·rw [bA h3,show decide ((l.Next.length:Int)>3)=false from l5 (by omega),l8]
       cases Ae (m.Lanes.length:Int) ((i:Int)+1) l.Next<;>rfl
theorem Wn {n i:Nat}{l:Lane}{e:Int}(h:laneE n i l=some e):e≠0:=by
  unfold laneE at h
  split at h
  ·cases h;decide
  ·split at h
   ·rename_i h2;cases h;exact h2
   ·split at h
    ·cases h;decide
    ·split at h
     ·cases h;decide
     ·split at h
      ·cases h;decide
      ·cases h
theorem DB {m:Map}(B:Bear m):loop (Z9 m) 0=some (FO (I3 (laneE m.Lanes.length) 0 m.Lanes)):=
  Ds m.Lanes (Z9 m) (laneE m.Lanes.length) (fun i l hl=>by
   have hi:=H5 hl
   have hb:=B.lanes
   unfold Z9
   rw [show decide ((i:Int)< (m.Lanes.length:Int))=true from l4 (by omega),MI B hl,l7,lA,FP (n:=(i:Int)+1) (by omega)]
   cases h:laneE m.Lanes.length i l with
   |none=>rfl
   |some e=>
    rw [Option.getD_some,show (e !=0)=true by simpa using Wn h];rfl) (by
   unfold Z9
   rw [show decide ((m.Lanes.length:Int)< (m.Lanes.length:Int))=false from l5 (by omega)];rfl)
theorem Ip {high:Int}: ∀{l:List Int} {low:Int},Ae high low l=true→∀k∈l,low≤k∧k<high
  | [],_,_,k,hk=>by cases hk
  |n::r,low,h,k,hk=>by
   unfold Ae at h
   simp only [bC,l6]at h
   rcases lR.1 hk with rfl|hk
   ·exact h.1
   ·have:=Ip h.2 k hk
    omega
/-- What a lane is that has no error of its own. -/
structure LaneOK (n i:Nat)(l:Lane):Prop where
  kind:(Lx l.Kind).1≠0
  curve:X5 l.Curve_.Pts=0
  half:Pd l.Half 200 4000=true
  limit:Pd l.Limit 1 (Lx l.Kind).1=true
  few:l.Next.length≤3
  next:Ae n (i+1) l.Next=true
theorem FQ {n i:Nat}{l:Lane}(h:laneE n i l=none):LaneOK n i l:=by
  unfold laneE at h
  split at h
  ·cases h
  ·rename_i h1
   split at h
   ·cases h
   ·rename_i h2
    split at h
    ·cases h
    ·rename_i h3
     split at h
     ·cases h
     ·rename_i h4
      split at h
      ·cases h
      ·rename_i h5
       simp only [Bool.not_eq_false,bC]at h3
       exact ⟨h1,Decidable.not_not.1 h2,h3.1,h3.2,by omega,by simpa using h5⟩
theorem Nu {m:Map}(h:I3 (laneE m.Lanes.length) 0 m.Lanes=none){i:Nat}{l:Lane}(hl:m.Lanes[i]? =some l):LaneOK m.Lanes.length i l:=by
  have:=firstE_none.1 h i l hl
  rw [bN]at this
  exact FQ this
theorem Sr {l:List Spot}(h:X5 l=0):2≤l.length:=by
  unfold X5 at h
  split at h
  ·cases h
  ·omega
def Pe (l:List Spot):Spot:=l.headD ⟨0,0⟩
def Mk (l:List Spot):Spot:=l.getLastD ⟨0,0⟩
theorem Yu {l:List Spot}(h:2≤l.length):D6 l 0=some (Pe l):=by
  cases l with
  |nil=>simp at h
  |cons a r=>rfl
theorem Yv {l:List Spot}(h:2≤l.length)(hl:l.length≤1000000):D6 l (I8 ((l.length:Int) - 1))=some (Mk l):=by
  rw [FP (by omega),show (l.length:Int) - 1=((l.length - 1:Nat):Int) by omega]
  refine D1 ?_
  unfold Mk
  rw [List.getLastD_eq_getLast?,List.getLast?_eq_getElem?]
  rw [lG (by omega)];rfl
def DC (a b:Spot):Bool:=a.X==b.X&& (a.Y==b.Y&&true)
def Qa (m:Map)(l:Lane)(_:Nat)(k:Int):Option Int:=
  match m.Lanes[k.toNat]? with
  |some n=>if n.Kind≠l.Kind then some 4 else if DC (Pe n.Curve_.Pts) (Mk l.Curve_.Pts)=false then some 3 else none
  |none=>none
def Gq (m:Map)(_:Nat)(l:Lane):Option Int:=I3 (Qa m l) 0 l.Next
theorem Wo {m:Map}(B:Bear m)(H:I3 (laneE m.Lanes.length) 0 m.Lanes=none){i:Nat}{l:Lane}(hl:m.Lanes[i]? =some l){j:Nat}{k:Int}(hk:l.Next[j]? =some k):
    ∃n,D6 m.Lanes k=some n∧m.Lanes[k.toNat]? =some n∧2≤n.Curve_.Pts.length∧n.Curve_.Pts.length≤1000000:=by
  have L:=Nu H hl
  have hb:=Ip L.next k (lF hk)
  have hlt:k.toNat<m.Lanes.length:=by omega
  refine ⟨m.Lanes[k.toNat],?_,lG hlt,Sr (Nu H (lG hlt)).curve,(B.pts _ (List.getElem_mem hlt)).1⟩
  unfold D6
  rw [l9 (by omega),lG hlt]
theorem IP {m:Map}{l:Lane}{j:Nat}{k e:Int}(h:Qa m l j k=some e):e≠0:=by
  unfold Qa at h
  split at h
  ·split at h
   ·cases h;decide
   ·split at h
    ·cases h;decide
    ·cases h
  ·cases h
theorem Yw {m:Map}(B:Bear m)(H:I3 (laneE m.Lanes.length) 0 m.Lanes=none){i:Nat}{l:Lane}(hl:m.Lanes[i]? =some l):
    loop (R3 ⟨m⟩ l (Mk l.Curve_.Pts)) 0=some (FO (Gq m i l))∧loop (V6 m l) 0=some (FO (Gq m i l)):=by
  have L:=Nu H hl
  obtain ⟨p1,p2⟩:=B.pts l (lF hl)
  constructor
  ·refine Ds l.Next _ (Qa m l) (fun j k hk=> ?_) ?_
   ·have hj:=H5 hk
    obtain ⟨n,g1,g2,g3,g4⟩:=Wo B H hl hk
    unfold R3 Qa
    dsimp only
    rw [show decide ((j:Int)< (l.Next.length:Int))=true from l4 (by omega),D1 hk,l7,lA,g1,lA,lA,Yu g3,lA,FP (n:=(j:Int)+1) (by omega),g2]
    dsimp only
    rw [show ((Pe n.Curve_.Pts).X==(Mk l.Curve_.Pts).X&& ((Pe n.Curve_.Pts).Y==(Mk l.Curve_.Pts).Y&&true))=DC (Pe n.Curve_.Pts) (Mk l.Curve_.Pts) from rfl]
    by_cases h1:n.Kind≠l.Kind
    ·rw [l9 h1,show (n.Kind !=l.Kind)=true by simpa using h1];rfl
    ·rw [bA h1,show (n.Kind !=l.Kind)=false by simpa using h1]
     cases DC (Pe n.Curve_.Pts) (Mk l.Curve_.Pts)<;>rfl
   ·unfold R3
    rw [show decide ((l.Next.length:Int)< (l.Next.length:Int))=false from l5 (by omega)];rfl
  ·refine Ds l.Next _ (Qa m l) (fun j k hk=> ?_) ?_
   ·have hj:=H5 hk
    obtain ⟨n,g1,g2,g3,g4⟩:=Wo B H hl hk
    unfold V6 Qa
    rw [show decide ((j:Int)< (l.Next.length:Int))=true from l4 (by omega),D1 hk,l7,lA,g1,lA,Yu g3,lA,Yv (Sr L.curve) p1,lA,FP (n:=(j:Int)+1) (by omega),g2]
    dsimp only
    rw [show ((Pe n.Curve_.Pts).X==(Mk l.Curve_.Pts).X&& ((Pe n.Curve_.Pts).Y==(Mk l.Curve_.Pts).Y&&true))=DC (Pe n.Curve_.Pts) (Mk l.Curve_.Pts) from rfl]
    by_cases h1:n.Kind≠l.Kind
    ·rw [l9 h1,show (n.Kind !=l.Kind)=true by simpa using h1];rfl
    ·rw [bA h1,show (n.Kind !=l.Kind)=false by simpa using h1]
     cases DC (Pe n.Curve_.Pts) (Mk l.Curve_.Pts)<;>rfl
   ·unfold V6
    rw [show decide ((l.Next.length:Int)< (l.Next.length:Int))=false from l5 (by omega)];rfl
theorem Yx {m:Map}(B:Bear m)(H:I3 (laneE m.Lanes.length) 0 m.Lanes=none):
    P3 ⟨m⟩=some ((I3 (Gq m) 0 m.Lanes).getD 0)∧Di m=some ((I3 (Gq m) 0 m.Lanes).getD 0):=by
  have hb:=B.lanes
  constructor
  ·have h:=Ds m.Lanes (L0 ⟨m⟩) (Gq m) (fun i l hl=>by
     have hi:=H5 hl
     have L:=Nu H hl
     obtain ⟨p1,p2⟩:=B.pts l (lF hl)
     unfold L0
     dsimp only
     rw [show decide ((i:Int)< (m.Lanes.length:Int))=true from l4 (by omega),D1 hl,l7,lA,Yv (Sr L.curve) p1,lA,(Yw B H hl).1,FP (n:=(i:Int)+1) (by omega)]
     cases Gq m i l<;>rfl) (by
     unfold L0
     dsimp only
     rw [show decide ((m.Lanes.length:Int)< (m.Lanes.length:Int))=false from l5 (by omega)];rfl)
   unfold P3
   rw [h]
   cases I3 (Gq m) 0 m.Lanes<;>rfl
  ·have h:=Ds m.Lanes (V7 m) (Gq m) (fun i l hl=>by
     have hi:=H5 hl
     unfold V7
     rw [show decide ((i:Int)< (m.Lanes.length:Int))=true from l4 (by omega),D1 hl,l7,lA,(Yw B H hl).2,FP (n:=(i:Int)+1) (by omega)]
     cases Gq m i l<;>rfl) (by
     unfold V7
     rw [show decide ((m.Lanes.length:Int)< (m.Lanes.length:Int))=false from l5 (by omega)];rfl)
   unfold Di
   rw [h]
   cases I3 (Gq m) 0 m.Lanes<;>rfl
/-- The place of the first element with a property. -/
theorem FR {α:Type}{f:Int→Option (Stp Int (Sum Unit Int))}(l:List α)(P:α→Bool)(hl:l.length≤1000000000)(hf: ∀(i:Nat) a,l[i]? =some a→f (i:Int)=some (if P a then .out (.inr (i:Int))else .go (I8 ((i:Int)+1))))(he:f (l.length:Int)=some (.out (.inl ()))):
    loop f 0=some (match l.findIdx? P with|some i=> .inr (i:Int)|none=> .inl ()):=by
  have key: ∀(r:List α) (i:Nat),l.drop i=r→i≤l.length→loop f (i:Int)=some (match r.findIdx? P with|some j=> .inr ((i+j:Nat):Int)|none=> .inl ()):=by
    intro r
    induction r with
    |nil=>
     intro i hi hil
     have:=X7 hi
     obtain rfl:i=l.length:=by omega
     rw [I6 he];rfl
    |cons a r ih=>
     intro i hi _
     have hlt:=U7 hi
     have h0:l[i]? =some a:=by have:=congrArg (fun z=>z[0]?) hi;simpa using this
     have hs:=hf i a h0
     rw [List.findIdx?_cons]
     by_cases hp:P a=true
     ·rw [l9 hp]at hs
      rw [I6 hs,l9 hp];simp
     ·rw [bA hp]at hs
      rw [P0 (by omega)]at hs
      rw [R7 hs,show ((i:Int)+1)=((i+1:Nat):Int) by omega,ih (i+1) (Q1 hi) (by omega),bA hp]
      cases r.findIdx? P with
      |none=>rfl
      |some j=>simp only [lE];congr 3;omega
  have:=key l 0 rfl (by omega)
  rw [show ((0:Nat):Int)=0 from rfl]at this
  rw [this]
  cases l.findIdx? P<;>simp
/-- -1, or the place. -/
def PL {α:Type}(P:α→Bool)(l:List α):Int:=match l.findIdx? P with|some i=>(i:Int)|none=> -1
theorem DD {α:Type}(P:α→Bool)(l:List α):decide (PL P l≥0)=l.any P:=by
  unfold PL
  cases h:l.findIdx? P with
  |none=>
   have:=List.findIdx?_eq_none_iff.1 h
   rw [show l.any P=false by rw [List.any_eq_false];intro x hx;simpa using this x hx]
   decide
  |some i=>
   have:=List.findIdx?_isSome (xs:=l) (p:=P)
   rw [h]at this
   rw [← this]
   simp
/-- What both twins compute of a list. -/
theorem DE {α:Type}{f:Int→Option (Stp Int (Sum Unit Int))}(l:List α)(P:α→Bool)(hl:l.length≤1000000000)(hf: ∀(i:Nat) a,l[i]? =some a→f (i:Int)=some (if P a then .out (.inr (i:Int))else .go (I8 ((i:Int)+1))))(he:f (l.length:Int)=some (.out (.inl ()))):
    thenS (loop f 0) (fun _=>some (-1)) (fun r=>some r)=some (PL P l):=by
  rw [FR l P hl hf he]
  unfold PL
  cases l.findIdx? P<;>rfl
theorem IQ (l:List Phase)(hl:l.length≤1000000):C8 l=some (l.any fun p=> !Pd p.Ticks 1 10000):=by
  unfold C8 D7
  rw [DE l (fun p=> !Pd p.Ticks 1 10000) (by omega) (fun i a h=>by
   have:=H5 h
   unfold F8 Ag
   rw [show decide ((i:Int)< (l.length:Int))=true from l4 (by omega),D1 h,l7,lA,Io,lA,lA]
   cases Pd a.Ticks 1 10000<;>rfl) (by
   unfold F8
   simp)]
  rw [lA,DD]
theorem FS (m:Map)(l:List Phase)(hl:l.length≤1000000)(hm:m.Lanes.length≤1000000)(hg: ∀p∈l,p.Green.length≤1000000):C7 l ⟨m⟩=some (l.any fun p=> !Ae m.Lanes.length 0 p.Green):=by
  unfold C7 D4
  rw [DE l (fun p=> !Ae m.Lanes.length 0 p.Green) (by omega) (fun i a h=>by
   have:=H5 h
   unfold C6 O5
   dsimp only
   rw [show decide ((i:Int)< (l.length:Int))=true from l4 (by omega),D1 h,l7,lA,Sq _ _ _ (hg a (lF h)) (by omega) (by omega),lA,lA]
   cases Ae (m.Lanes.length:Int) 0 a.Green<;>rfl) (by
   unfold C6
   simp)]
  rw [lA,DD]
structure BearS (m:Map):Prop where
  many:m.Signals.length≤1000000
  phases: ∀s∈m.Signals,s.Phases.length≤1000000∧∀p∈s.Phases,p.Green.length≤1000000
def Da (m:Map)(_:Nat)(s:Signal):Option Int:=
  if s.Phases.length=0 then some 6
  else if 6<s.Phases.length then some 8
  else if Pd s.Offset 0 1099511627776=false then some 2
  else if (s.Phases.any fun p=> !Pd p.Ticks 1 10000)=true then some 2
  else if (s.Phases.any fun p=> !Ae m.Lanes.length 0 p.Green)=true then some 11 else none
theorem FT {m:Map}(B:Bear m)(S:BearS m):O2 ⟨m⟩=some ((I3 (Da m) 0 m.Signals).getD 0):=by
  have h:=Ds m.Signals (K0 ⟨m⟩) (Da m) (fun i s hs=>by
    have hi:=H5 hs
    have hb:=S.many
    obtain ⟨p1,p2⟩:=S.phases s (lF hs)
    unfold K0 Da
    dsimp only
    rw [show decide ((i:Int)< (m.Signals.length:Int))=true from l4 (by omega),D1 hs,l7,lA,Io,lA,IQ _ p1,lA,FS m _ p1 B.lanes p2,lA,FP (n:=(i:Int)+1) (by omega)]
    by_cases h1:s.Phases.length=0
    ·rw [l9 h1,h1];rfl
    ·rw [bA h1,show ((s.Phases.length:Int)==0)=false by simp only [beq_eq_false_iff_ne];omega,l8]
     by_cases h2:6<s.Phases.length
     ·rw [l9 h2,show decide ((s.Phases.length:Int)>6)=true from l4 (by omega)];rfl
     ·rw [bA h2,show decide ((s.Phases.length:Int)>6)=false from l5 (by omega),l8]
      cases Pd s.Offset 0 1099511627776
      ·rfl
      ·cases (s.Phases.any fun p=> !Pd p.Ticks 1 10000)
       ·cases (s.Phases.any fun p=> !Ae m.Lanes.length 0 p.Green)<;>rfl
       ·rfl) (by
    unfold K0
    dsimp only
    rw [show decide ((m.Signals.length:Int)< (m.Signals.length:Int))=false from l5 (by omega)];rfl)
  unfold O2
  rw [h]
  cases I3 (Da m) 0 m.Signals<;>rfl
theorem DF (s:Signal)(hl:s.Phases.length≤1000000): ∀(r:List Phase) (i:Nat) (b:Bool),s.Phases.drop i=r→i≤s.Phases.length→loop (Q4 s) (b,(i:Int))=some (b&& !(r.any fun p=> !Pd p.Ticks 1 10000)):=by
  intro r
  induction r with
  |nil=>
   intro i b hi hil
   have:=X7 hi
   refine I6 ?_
   unfold Q4
   dsimp only
   rw [show decide ((i:Int)< (s.Phases.length:Int))=false from l5 (by omega)]
   simp
  |cons p r ih=>
   intro i b hi hil
   have hlt:=U7 hi
   have hs:Q4 s (b,(i:Int))=some (.go (b&&Pd p.Ticks 1 10000,((i+1:Nat):Int))):=by
     unfold Q4
     dsimp only
     rw [show decide ((i:Int)< (s.Phases.length:Int))=true from l4 (by omega),X0 hi,FP (n:=(i:Int)+1) (by omega)]
     cases b<;>rfl
   rw [R7 hs,ih (i+1) _ (Q1 hi) (by omega),List.any_cons]
   cases b<;>cases Pd p.Ticks 1 10000<;>simp
theorem AI (m:Map)(s:Signal)(hl:s.Phases.length≤1000000)(hg: ∀p∈s.Phases,p.Green.length≤1000000):loop (Q3 m s) 0=some (if (s.Phases.any fun p=> !Ae m.Lanes.length 0 p.Green)=true then .inr 11 else .inl ()):=by
  have h:=Ds s.Phases (Q3 m s) (fun _ p=>if Ae m.Lanes.length 0 p.Green then none else some 11) (fun i p hp=>by
    have:=H5 hp
    unfold Q3
    rw [show decide ((i:Int)< (s.Phases.length:Int))=true from l4 (by omega),D1 hp,l7,lA,Pz _ _ _ (hg p (lF hp)),lA,FP (n:=(i:Int)+1) (by omega)]
    cases Ae (m.Lanes.length:Int) 0 p.Green<;>rfl) (by
    unfold Q3
    rw [show decide ((s.Phases.length:Int)< (s.Phases.length:Int))=false from l5 (by omega)];rfl)
  rw [h]
  have key: ∀(l:List Phase) (i:Nat),FO (I3 (fun (_:Nat) (p:Phase)=>if Ae (m.Lanes.length:Int) 0 p.Green=true then none else some (11:Int)) i l)=if (l.any fun p=> !Ae m.Lanes.length 0 p.Green)=true then .inr 11 else .inl ():=by
    intro l
    induction l with
    |nil=>intro i;rfl
    |cons p r ih=>
     intro i
     unfold I3
     rw [List.any_cons]
     cases hq:Ae (m.Lanes.length:Int) 0 p.Green
     ·rfl
     ·exact ih (i+1)
  rw [key]
end Go.Abs.Roadsz
/-! Loops over lists, as functions on lists. -/
namespace Go.Abs
open Go
section
variable {α β σ S τ:Type}
/-- What a loop over a list makes, with a state, and with a way out. -/
def Tl (step:Nat→σ→α→Sum σ τ)(fin:σ→τ):Nat→σ→List α→τ
  |_,s,[]=>fin s
  |i,s,a::r=>match step i s a with
   | .inl s'=>Tl step fin (i+1) s' r
   | .inr t=>t
theorem Nv {l:List α}{i:Nat}{a:α}{r:List α}(h:l.drop i=a::r):l[i]? =some a:=by
  have:=congrArg (fun z=>z[0]?) h
  simpa using this
theorem MJ {F:S→Option (Stp S τ)}(pk:Nat→σ→S)(l:List α)(inv:Nat→σ→Prop)(step:Nat→σ→α→Sum σ τ)(fin:σ→τ){s0:σ}{S0:S}(hS:pk 0 s0=S0)(hi:inv 0 s0)
    (hF: ∀i a s,l[i]? =some a→inv i s→F (pk i s)=some (match step i s a with| .inl s'=> .go (pk (i+1) s')| .inr t=> .out t))
    (hI: ∀i a s s',l[i]? =some a→inv i s→step i s a= .inl s'→inv (i+1) s')
    (h0: ∀s,inv l.length s→F (pk l.length s)=some (.out (fin s))):loop F S0=some (Tl step fin 0 s0 l):=by
  have key: ∀(r:List α) (i:Nat) (s:σ),l.drop i=r→i≤l.length→inv i s→loop F (pk i s)=some (Tl step fin i s r):=by
    intro r
    induction r with
    |nil=>
     intro i s hi hil hv
     have:=X7 hi
     obtain rfl:i=l.length:=by omega
     exact I6 (h0 s hv)
    |cons a r ih=>
     intro i s hi hil hv
     have hlt:=U7 hi
     have ha:=Nv hi
     have hs:=hF i a s ha hv
     unfold Tl
     cases h:step i s a with
     |inl s'=>rw [h]at hs;rw [R7 hs];exact ih (i+1) s' (Q1 hi) (by omega) (hI i a s s' ha hv h)
     |inr t=>rw [h]at hs;exact I6 hs
  rw [← hS]
  exact key l 0 s0 rfl (by omega) hi
/-- The same without a way out. -/
def Rm (step:Nat→σ→α→σ):Nat→σ→List α→σ
  |_,s,[]=>s
  |i,s,a::r=>Rm step (i+1) (step i s a) r
theorem Tm (step:Nat→σ→α→σ)(fin:σ→τ): ∀(l:List α) (i:Nat) (s:σ),Tl (fun i s a=> .inl (step i s a)) fin i s l=fin (Rm step i s l)
  | [],_,_=>rfl
  |_::r,i,_=>Tm step fin r (i+1) _
theorem QH {F:S→Option (Stp S τ)}(pk:Nat→σ→S)(l:List α)(inv:Nat→σ→Prop)(step:Nat→σ→α→σ)(fin:σ→τ){s0:σ}{S0:S}(hS:pk 0 s0=S0)(hi:inv 0 s0)
    (hF: ∀i a s,l[i]? =some a→inv i s→F (pk i s)=some (.go (pk (i+1) (step i s a))))
    (hI: ∀i a s,l[i]? =some a→inv i s→inv (i+1) (step i s a))
    (h0: ∀s,inv l.length s→F (pk l.length s)=some (.out (fin s))):loop F S0=some (fin (Rm step 0 s0 l)):=by
  rw [← Tm step fin]
  exact MJ pk l inv _ fin hS hi hF (fun i a s s' h1 h2 h3=>by cases h3;exact hI i a s h1 h2) h0
/-- The elements that a loop gathers. -/
def Gp (g:Nat→α→Option β):Nat→List α→List β
  |_,[]=> []
  |i,a::r=>match g i a with
   |some b=>b::Gp g (i+1) r
   |none=>Gp g (i+1) r
theorem Ss (g:Nat→α→Option β): ∀(l:List α) (i:Nat),(Gp g i l).length≤l.length
  | [],_=>bK _
  |a::r,i=>by
   have:=Ss g r (i+1)
   unfold Gp
   cases g i a<;>simp only [lJ]<;>omega
theorem Wq (g:Nat→α→Option β): ∀(l:List α) (i:Nat) (s:List β),Rm (fun i s a=>match g i a with|some b=>s++ [b]|none=>s) i s l=s++Gp g i l
  | [],_,s=>by simp [Rm,Gp]
  |a::r,i,s=>by
   unfold Rm Gp
   rw [Wq g r (i+1)]
   cases g i a<;>simp
theorem TO {F:S→Option (Stp S τ)}(pk:Nat→List β→S)(l:List α)(g:Nat→α→Option β)(fin:List β→τ){S0:S}(hS:pk 0 []=S0)
    (hF: ∀i a (s:List β),l[i]? =some a→s.length≤i→F (pk i s)=some (.go (pk (i+1) (match g i a with|some b=>s++ [b]|none=>s))))
    (h0: ∀s,F (pk l.length s)=some (.out (fin s))):loop F S0=some (fin (Gp g 0 l)):=by
  have:=QH pk l (fun i s=>s.length≤i) (fun i s a=>match g i a with|some b=>s++ [b]|none=>s) fin hS (by simp) hF (fun i a s _ hs=>by
    cases g i a<;>simp<;>omega) (fun s _=>h0 s)
  rw [this,Wq,lN]
/-- Is there one? -/
theorem Kx {F:Int→Option (Stp Int (Sum Unit β))}(l:List α)(p:α→Bool)(v:β)(hF: ∀(i:Nat) a,l[i]? =some a→F (i:Int)=some (if p a then .out (.inr v)else .go ((i+1:Nat):Int)))(h0:F (l.length:Int)=some (.out (.inl ()))):
    loop F 0=some (if l.any p then .inr v else .inl ()):=by
  have key: ∀(l:List α) (i:Nat),Tl (fun _ _ a=>if p a then Sum.inr (Sum.inr v)else Sum.inl ()) (fun _=>(Sum.inl ():Sum Unit β)) i () l=if l.any p then .inr v else .inl ():=by
    intro l
    induction l with
    |nil=>intro i;rfl
    |cons a r ih=>
     intro i
     unfold Tl
     rw [List.any_cons]
     cases h:p a
     ·exact ih (i+1)
     ·rfl
  rw [← key l 0]
  exact MJ (F:=F) (σ:=Unit) (fun i _=>(i:Int)) l (fun _ _=>True) _ _ (s0:=()) rfl trivial (fun i a _ h _=>by rw [hF i a h];cases p a<;>rfl) (fun _ _ _ _ _ _ _=>trivial) (fun _ _=>h0)
end
theorem T8 {i:Nat}{n:Nat}(h:i<n):decide ((i:Int)< (n:Int))=true:=l4 (by omega)
theorem Q8 (n:Nat):decide ((n:Int)< (n:Int))=false:=l5 (by omega)
theorem J8 {i:Nat}{n:Nat}(h:i<n)(hn:n≤1000000000000):I8 ((i:Int)+1)=((i+1:Nat):Int):=by rw [P0 (by omega)];omega
end Go.Abs
namespace Go.Abs.Roadsz
open Go Go.Abs
structure BearZ (m:Map):Prop where
  many:m.Zones.length≤1000000
  parts: ∀z∈m.Zones,z.Parts.length≤1000000
noncomputable def Dx (m:Map)(k:Int):Int:=((m.Lanes[k.toNat]?).map fun l=>MF l.Curve_).getD 0
noncomputable def Ly (m:Map)(p:Part):Bool:=decide (p.From<0)||decide (p.From≥p.To)||decide (p.To>Dx m p.Lane_)||decide (p.Rank<0)||decide (p.Rank>100)
noncomputable def Kg (m:Map)(_:Nat)(z:Zone):Option Int:=
  if z.Parts.length<2 then some 6
  else if 6<z.Parts.length then some 8
  else if z.Signal_<0∨(m.Signals.length:Int)<z.Signal_ then some 2
  else if Ae m.Lanes.length 0 (z.Parts.map (·.Lane_))=false then some 11
  else if z.Parts.any (Ly m)=true then some 2 else none
theorem Rn {m:Map}{k:Int}(h0:0≤k)(h1:k<m.Lanes.length): ∃l,m.Lanes[k.toNat]? =some l∧D6 m.Lanes k=some l:=by
  have hlt:k.toNat<m.Lanes.length:=by omega
  refine ⟨m.Lanes[k.toNat],lG hlt,?_⟩
  unfold D6
  rw [l9 h0,lG hlt]
theorem GY {m:Map}(B:Bear m){k:Int}(h0:0≤k)(h1:k<m.Lanes.length):T5 m k=some (Dx m k):=by
  obtain ⟨l,e1,e2⟩:=Rn h0 h1
  have:=PK (m:=m) e1 (B.pts l (lF e1)).1
  rw [show ((k.toNat:Nat):Int)=k by omega]at this
  rw [this,Dx,e1];rfl
theorem DG {m:Map}(B:Bear m){k:Int}(h0:0≤k)(h1:k<m.Lanes.length): ∃l,D6 m.Lanes k=some l∧Cx l.Curve_=some (Dx m k):=by
  obtain ⟨l,e1,e2⟩:=Rn h0 h1
  refine ⟨l,e2,?_⟩
  rw [Ui _ (B.pts l (lF e1)).1,Dx,e1];rfl
theorem DH {α β:Type}(f:α→β): ∀(l:List α) (i:Nat),Gp (fun _ a=>some (f a)) i l=l.map f
  | [],_=>rfl
  |a::r,i=>by rw [Gp,DH f r];rfl
theorem MK {z:Zone}{F:List Int×Int→Option (Stp (List Int×Int) (List Int))}(hl:z.Parts.length≤1000000)
    (hF: ∀x,F x=cond (decide (x.2< (z.Parts.length:Int))) ((D6 z.Parts x.2).bind fun v=>(U5 x.1 [v.Lane_]).bind fun w=>some (.go (w,I8 (x.2+1)))) (some (.out x.1))):
    loop F ([],0)=some (z.Parts.map (·.Lane_)):=by
  rw [← DH (fun p:Part=>p.Lane_) z.Parts 0]
  refine TO (fun i s=>(s,(i:Int))) z.Parts (fun _ p=>some p.Lane_) id rfl (fun i a s ha hs=> ?_) (fun s=> ?_)
  ·have hi:=H5 ha
   rw [hF,T8 hi,D1 ha,l7,lA,Fk (by simp;omega),lA,J8 hi (by omega)]
  ·rw [hF,Q8];rfl
theorem ML {m:Map}(B:Bear m)(Z:BearZ m):P9 ⟨m⟩=some ((I3 (Kg m) 0 m.Zones).getD 0):=by
  have hb:=B.lanes
  have h:=Ds m.Zones (M4 ⟨m⟩) (Kg m) (fun i z hz=>by
    have hi:=H5 hz
    have hm:=Z.many
    have p1:=Z.parts z (lF hz)
    unfold M4 Kg
    dsimp only
    rw [T8 hi,D1 hz,l7,lA,MK p1 (F:=Bc z) (fun x=>rfl),lA,Sq _ _ _ (by simpa using p1) (by omega) (by omega),lA,J8 hi (by omega)]
    by_cases h1:z.Parts.length<2
    ·rw [l9 h1,show decide ((z.Parts.length:Int)<2)=true from l4 (by omega)];rfl
    ·rw [bA h1,show decide ((z.Parts.length:Int)<2)=false from l5 (by omega),l8]
     by_cases h2:6<z.Parts.length
     ·rw [l9 h2,show decide ((z.Parts.length:Int)>6)=true from l4 (by omega)];rfl
     ·rw [bA h2,show decide ((z.Parts.length:Int)>6)=false from l5 (by omega),l8]
      by_cases h3:z.Signal_<0∨(m.Signals.length:Int)<z.Signal_
      ·rw [l9 h3,show ((decide (z.Signal_<0))||(decide (z.Signal_>(m.Signals.length:Int))))=true by simpa using h3];rfl
      ·rw [bA h3,show ((decide (z.Signal_<0))||(decide (z.Signal_>(m.Signals.length:Int))))=false by rw [bG];simpa using h3,l8]
       cases h4:Ae (m.Lanes.length:Int) 0 (z.Parts.map (·.Lane_))
       ·rfl
       ·rw [bA (by decide)]
        have:=Kx (F:=M3 ⟨m⟩ z) z.Parts (Ly m) (2:Int) (fun j p hp=>by
          have hj:=H5 hp
          have hk:=Ip h4 p.Lane_ (List.mem_map.2 ⟨p,lF hp,rfl⟩)
          unfold M3 Ly
          dsimp only
          rw [T8 hj,D1 hp,l7,lA,GY B hk.1 hk.2,J8 hj (by omega)]
          cases h5:(decide (p.From<0)||decide (p.From≥p.To))
          ·simp only [bF,l7,lA]
           cases (false||decide (p.To>Dx m p.Lane_)||decide (p.Rank<0)||decide (p.Rank>100))<;>rfl
          ·rfl) (by unfold M3;rw [Q8];rfl)
        rw [this]
        cases z.Parts.any (Ly m)<;>rfl) (by
    unfold M4
    dsimp only
    rw [Q8];rfl)
  unfold P9
  rw [h]
  cases I3 (Kg m) 0 m.Zones<;>rfl
theorem MM {m:Map}(B:Bear m)(Z:BearZ m){i:Nat}{z:Zone}(hz:m.Zones[i]? =some z):Dj m z=some ((Kg m i z).getD 0):=by
  have hb:=B.lanes
  have p1:=Z.parts z (lF hz)
  unfold Dj Kg
  rw [MK p1 (F:=Cy z) (fun x=>rfl),lA,Pz _ _ _ (by simpa using p1),lA]
  by_cases h1:z.Parts.length<2
  ·rw [l9 h1,show decide ((z.Parts.length:Int)<2)=true from l4 (by omega)];rfl
  ·rw [bA h1,show decide ((z.Parts.length:Int)<2)=false from l5 (by omega),l8]
   by_cases h2:6<z.Parts.length
   ·rw [l9 h2,show decide ((z.Parts.length:Int)>6)=true from l4 (by omega)];rfl
   ·rw [bA h2,show decide ((z.Parts.length:Int)>6)=false from l5 (by omega),l8]
    by_cases h3:z.Signal_<0∨(m.Signals.length:Int)<z.Signal_
    ·rw [l9 h3,show ((decide (z.Signal_<0))||(decide (z.Signal_>(m.Signals.length:Int))))=true by simpa using h3];rfl
    ·rw [bA h3,show ((decide (z.Signal_<0))||(decide (z.Signal_>(m.Signals.length:Int))))=false by rw [bG];simpa using h3,l8]
     cases h4:Ae (m.Lanes.length:Int) 0 (z.Parts.map (·.Lane_))
     ·rfl
     ·rw [bA (by decide)]
      have:=Kx (F:=V8 m z) z.Parts (Ly m) (2:Int) (fun j p hp=>by
        have hj:=H5 hp
        have hk:=Ip h4 p.Lane_ (List.mem_map.2 ⟨p,lF hp,rfl⟩)
        obtain ⟨l,e1,e2⟩:=DG B hk.1 hk.2
        unfold V8 Ly
        rw [T8 hj,D1 hp,l7,lA,e1,J8 hj (by omega)]
        cases h5:(decide (p.From<0)||decide (p.From≥p.To))
        ·simp only [bF,l7,lA,e2]
         cases (false||decide (p.To>Dx m p.Lane_)||decide (p.Rank<0)||decide (p.Rank>100))<;>rfl
        ·rfl) (by unfold V8;rw [Q8];rfl)
      rw [this]
      cases z.Parts.any (Ly m)<;>rfl
structure BearW (m:Map):Prop where
  many:m.Works.length≤1000000
noncomputable def Ky (m:Map)(_:Nat)(w:Work):Option Int:=
  if w.Lane_<0∨(m.Lanes.length:Int)≤w.Lane_ then some 7
  else if (decide (w.From<0)||decide (w.From>w.To)||decide (w.To>Dx m w.Lane_)||decide (w.Begin<0)||decide (w.Begin≥w.End)||decide (w.End>1099511627776)|| !Pd w.Limit 0 ((m.Lanes[w.Lane_.toNat]?).map fun l=>(Lx l.Kind).1).get!)=true then some 2 else none
theorem MN {m:Map}(B:Bear m)(W:BearW m):Q0 ⟨m⟩=some ((I3 (Ky m) 0 m.Works).getD 0):=by
  have hb:=B.lanes
  have h:=Ds m.Works (M5 ⟨m⟩) (Ky m) (fun i w hw=>by
    have hi:=H5 hw
    have hm:=W.many
    unfold M5 Ky
    dsimp only
    rw [T8 hi,D1 hw,l7,lA,J8 hi (by omega)]
    by_cases h1:w.Lane_<0∨(m.Lanes.length:Int)≤w.Lane_
    ·rw [l9 h1,show ((decide (w.Lane_<0))||(decide (w.Lane_≥(m.Lanes.length:Int))))=true by simpa using h1];rfl
    ·rw [bA h1,show ((decide (w.Lane_<0))||(decide (w.Lane_≥(m.Lanes.length:Int))))=false by rw [bG];simpa using h1,l8]
     obtain ⟨l,e1,e2⟩:=Rn (m:=m) (k:=w.Lane_) (by omega) (by omega)
     rw [e2,lA,Yt,lA,GY B (by omega) (by omega),Io,e1]
     simp only [lE,Option.get!_some]
     cases (decide (w.From<0)||decide (w.From>w.To))
     ·simp only [bF,l7,lA]
      cases (false||decide (w.To>Dx m w.Lane_)||decide (w.Begin<0)||decide (w.Begin≥w.End)||decide (w.End>1099511627776))
      ·simp only [bF,l7,lA]
       by_cases hq:Pd w.Limit 0 (Lx l.Kind).1=true<;>simp [hq]
      ·rfl
     ·rfl) (by
    unfold M5
    dsimp only
    rw [Q8];rfl)
  unfold Q0
  rw [h]
  cases I3 (Ky m) 0 m.Works<;>rfl
theorem MO {m:Map}(B:Bear m){i:Nat}(w:Work):Dk m w=some ((Ky m i w).getD 0):=by
  have hb:=B.lanes
  unfold Dk Ky
  by_cases h1:w.Lane_<0∨(m.Lanes.length:Int)≤w.Lane_
  ·rw [l9 h1,show ((decide (w.Lane_<0))||(decide (w.Lane_≥(m.Lanes.length:Int))))=true by simpa using h1];rfl
  ·rw [bA h1,show ((decide (w.Lane_<0))||(decide (w.Lane_≥(m.Lanes.length:Int))))=false by rw [bG];simpa using h1,l8]
   obtain ⟨l,e1,e2⟩:=Rn (m:=m) (k:=w.Lane_) (by omega) (by omega)
   obtain ⟨l',e3,e4⟩:=DG B (k:=w.Lane_) (by omega) (by omega)
   rw [e2]at e3
   cases e3
   rw [e2,lA,Wm,lA,e4,Jq,e1]
   simp only [lE,Option.get!_some]
   cases (decide (w.From<0)||decide (w.From>w.To))
   ·simp only [bF,l7,lA]
    cases (false||decide (w.To>Dx m w.Lane_)||decide (w.Begin<0)||decide (w.Begin≥w.End)||decide (w.End>1099511627776))
    ·simp only [bF,l7,lA]
     by_cases hq:Pd w.Limit 0 (Lx l.Kind).1=true<;>simp [hq]
    ·rfl
   ·rfl
theorem FU {m:Map}(S:BearS m)(i:Nat){s:Signal}(hs:s∈m.Signals):Bi m s=some ((Da m i s).getD 0):=by
  obtain ⟨p1,p2⟩:=S.phases s hs
  unfold Bi Da
  rw [Jq,lA,show (0:Int)=((0:Nat):Int) from rfl,DF s p1 s.Phases 0 _ rfl (by omega),lA]
  rw [show ((0:Nat):Int)=0 from rfl,AI m s p1 p2]
  by_cases h1:s.Phases.length=0
  ·rw [l9 h1,h1];rfl
  ·rw [bA h1,show ((s.Phases.length:Int)==0)=false by simp only [beq_eq_false_iff_ne];omega,l8]
   by_cases h2:6<s.Phases.length
   ·rw [l9 h2,show decide ((s.Phases.length:Int)>6)=true from l4 (by omega)];rfl
   ·rw [bA h2,show decide ((s.Phases.length:Int)>6)=false from l5 (by omega),l8]
    cases Pd s.Offset 0 1099511627776
    ·rfl
    ·cases (s.Phases.any fun p=> !Pd p.Ticks 1 10000)
     ·cases (s.Phases.any fun p=> !Ae m.Lanes.length 0 p.Green)<;>rfl
     ·rfl
/-- All lists of a map are of bearable lengths. -/
structure BearM (m:Map):Prop where
  toBear:Bear m
  toBearS:BearS m
  toBearZ:BearZ m
  toBearW:BearW m
theorem BearM.lanes {m:Map}(B:BearM m):m.Lanes.length≤1000000:=B.toBear.lanes
noncomputable def Km (m:Map):Int:=
  if Pd m.Version 0 1099511627776=false then 2
  else if m.Lanes.length=0 then 6
  else if 12<m.Lanes.length∨12<m.Zones.length∨4<m.Signals.length∨8<m.Works.length then 8
  else ((I3 (laneE m.Lanes.length) 0 m.Lanes).or ((I3 (Gq m) 0 m.Lanes).or ((I3 (Da m) 0 m.Signals).or ((I3 (Kg m) 0 m.Zones).or (I3 (Ky m) 0 m.Works))))).getD 0
theorem W0 {α:Type}{g:Nat→α→Option Int}(h: ∀i a e,g i a=some e→e≠0): ∀{l:List α} {i:Nat} {e:Int},I3 g i l=some e→e≠0
  | [],_,_,q=>by cases q
  |a::r,i,e,q=>by
   unfold I3 at q
   cases hg:g i a with
   |some e'=>rw [hg]at q;cases q;exact h i a e hg
   |none=>rw [hg]at q;exact W0 h q
theorem Ro {m:Map}{i:Nat}{z:Zone}{e:Int}(h:Kg m i z=some e):e≠0:=by
  unfold Kg at h
  repeat' split at h
  all_goals first|(cases h;decide)|cases h
theorem Lz {m:Map}{i:Nat}{z:Signal}{e:Int}(h:Da m i z=some e):e≠0:=by
  unfold Da at h
  repeat' split at h
  all_goals first|(cases h;decide)|cases h
theorem Wr {m:Map}{i:Nat}{z:Work}{e:Int}(h:Ky m i z=some e):e≠0:=by
  unfold Ky at h
  repeat' split at h
  all_goals first|(cases h;decide)|cases h
theorem Ws {m:Map}{i:Nat}{z:Lane}{e:Int}(h:Gq m i z=some e):e≠0:=W0 (fun _ _ _=>IP) h
/-- A loop that goes on as long as there is no error. -/
theorem MP {α:Type}{F:Int×Int→Option (Stp (Int×Int) Int)}(l:List α)(g:Nat→α→Option Int)(hg: ∀i a e,g i a=some e→e≠0)(hl:l.length≤1000000)
    (hF: ∀(i:Nat) a,l[i]? =some a→F (0,(i:Int))=some (.go ((g i a).getD 0,((i+1:Nat):Int)))) (h0: ∀(i:Nat) (e:Int),e≠0→F (e,(i:Int))=some (.out e)) (h1:F (0,(l.length:Int))=some (.out 0)) (e0:Option Int) (he: ∀e,e0=some e→e≠0):
    loop F (e0.getD 0,0)=some ((e0.or (I3 g 0 l)).getD 0):=by
  have key: ∀(r:List α) (i:Nat),l.drop i=r→i≤l.length→loop F (0,(i:Int))=some ((I3 g i r).getD 0):=by
    intro r
    induction r with
    |nil=>
     intro i hi hil
     have:=X7 hi
     obtain rfl:i=l.length:=by omega
     exact I6 h1
    |cons a r ih=>
     intro i hi hil
     have hlt:=U7 hi
     have hs:=hF i a (Nv hi)
     rw [R7 hs]
     unfold I3
     cases h:g i a with
     |some e=>exact I6 (h0 (i+1) e (hg i a e h))
     |none=>exact ih (i+1) (Q1 hi) (by omega)
  cases e0 with
  |some e=>exact I6 (h0 0 e (he e rfl))
  |none=>exact key l 0 rfl (by omega)
theorem Nw {m:Map}(B:BearM m):Fz m=some (Km m):=by
  have hb:=B.lanes
  unfold Fz Km
  rw [Jq,lA]
  cases Pd m.Version 0 1099511627776
  ·rfl
  ·simp only [bE,l8,Bool.true_eq_false,if_false]
   by_cases h1:m.Lanes.length=0
   ·rw [l9 h1,h1];rfl
   ·rw [bA h1,show ((m.Lanes.length:Int)==0)=false by simp only [beq_eq_false_iff_ne];omega,l8]
    by_cases h2:12<m.Lanes.length∨12<m.Zones.length∨4<m.Signals.length∨8<m.Works.length
    ·rw [l9 h2,show ((((decide ((m.Lanes.length:Int)>12))||(decide ((m.Zones.length:Int)>12)))||(decide ((m.Signals.length:Int)>4)))||(decide ((m.Works.length:Int)>8)))=true by simp;omega];rfl
    ·rw [bA h2,show ((((decide ((m.Lanes.length:Int)>12))||(decide ((m.Zones.length:Int)>12)))||(decide ((m.Signals.length:Int)>4)))||(decide ((m.Works.length:Int)>8)))=false by simp;omega,l8]
     rw [DB B.toBear]
     cases H:I3 (laneE m.Lanes.length) 0 m.Lanes with
     |some e=>rfl
     |none=>
      have n1: ∀e,I3 (Gq m) 0 m.Lanes=some e→e≠0:=fun e h=>W0 (fun _ _ _=>Ws) h
      have n2: ∀e,(I3 (Gq m) 0 m.Lanes).or (I3 (Da m) 0 m.Signals)=some e→e≠0:=fun e h=>by
        rcases Option.or_eq_some_iff.1 h with h|⟨_,h⟩
        ·exact n1 e h
        ·exact W0 (fun _ _ _=>Lz) h
      have n3: ∀e,((I3 (Gq m) 0 m.Lanes).or (I3 (Da m) 0 m.Signals)).or (I3 (Kg m) 0 m.Zones)=some e→e≠0:=fun e h=>by
        rcases Option.or_eq_some_iff.1 h with h|⟨_,h⟩
        ·exact n2 e h
        ·exact W0 (fun _ _ _=>Ro) h
      simp only [FO,thenS,Option.none_or]
      rw [(Yx B.toBear H).2,lA]
      rw [MP m.Signals (Da m) (fun _ _ _=>Lz) B.toBearS.many (fun i a ha=>by
       have hi:=H5 ha
       have hm:=B.toBearS.many
       unfold Ci
       dsimp only
       rw [T8 hi,D1 ha,bB,show ((0:Int)==0)=true from rfl,l7,lA,FU B.toBearS i (lF ha),J8 hi (by omega)];rfl) (fun i e he=>by
       unfold Ci
       dsimp only
       rw [show (e==0)=false by simpa using he,Bool.and_false];rfl) (by unfold Ci;dsimp only;rw [Q8];rfl) _ n1,lA]
      rw [MP m.Zones (Kg m) (fun _ _ _=>Ro) B.toBearZ.many (fun i a ha=>by
       have hi:=H5 ha
       have hm:=B.toBearZ.many
       unfold Cg
       dsimp only
       rw [T8 hi,D1 ha,bB,show ((0:Int)==0)=true from rfl,l7,lA,MM B.toBear B.toBearZ ha,J8 hi (by omega)];rfl) (fun i e he=>by
       unfold Cg
       dsimp only
       rw [show (e==0)=false by simpa using he,Bool.and_false];rfl) (by unfold Cg;dsimp only;rw [Q8];rfl) _ n2,lA]
      rw [MP m.Works (Ky m) (fun _ _ _=>Wr) B.toBearW.many (fun i a ha=>by
       have hi:=H5 ha
       have hm:=B.toBearW.many
       unfold Cf
       dsimp only
       rw [T8 hi,D1 ha,bB,show ((0:Int)==0)=true from rfl,l7,lA,MO B.toBear (i:=i) a,J8 hi (by omega)];rfl) (fun i e he=>by
       unfold Cf
       dsimp only
       rw [show (e==0)=false by simpa using he,Bool.and_false];rfl) (by unfold Cf;dsimp only;rw [Q8];rfl) _ n3,lA]
      rw [Option.or_assoc,Option.or_assoc]
theorem Nx {m:Map}(B:BearM m):R9 m=some (Km m):=by
  have hb:=B.lanes
  have s0:J7 m 0=(T9 ⟨m⟩).bind fun v2=>cond (v2 !=0) (some (.out (.inr v2))) (some (.go 1)):=rfl
  have s1:J7 m 1=(P8 ⟨m⟩).bind fun v2=>cond (v2 !=0) (some (.out (.inr v2))) (some (.go 2)):=rfl
  have s2:J7 m 2=(P3 ⟨m⟩).bind fun v2=>cond (v2 !=0) (some (.out (.inr v2))) (some (.go 3)):=rfl
  have s3:J7 m 3=(O2 ⟨m⟩).bind fun v2=>cond (v2 !=0) (some (.out (.inr v2))) (some (.go 4)):=rfl
  have s4:J7 m 4=(P9 ⟨m⟩).bind fun v2=>cond (v2 !=0) (some (.out (.inr v2))) (some (.go 5)):=rfl
  have s5:J7 m 5=(Q0 ⟨m⟩).bind fun v2=>cond (v2 !=0) (some (.out (.inr v2))) (some (.go 6)):=rfl
  have s6:J7 m 6=some (.out (.inl ())):=rfl
  have SE: ∀(i j:Int) (e:Option Int) (X:Option Int),(∀e',e=some e'→e'≠0)→X=some (e.getD 0)→J7 m i=X.bind (fun v2=>cond (v2 !=0) (some (.out (.inr v2))) (some (.go j)))→loop (J7 m) i=match e with|some e'=>some (.inr e')|none=>loop (J7 m) j:=by
    intro i j e X he hX hs
    subst hX
    rw [lA]at hs
    cases e with
    |none=>exact R7 hs
    |some e'=>
     rw [Option.getD_some,show (e' !=0)=true by simpa using he e' rfl]at hs
     exact I6 hs
  unfold R9 Km
  have hnum:T9 ⟨m⟩=some ((if Pd m.Version 0 1099511627776=false then some 2 else if m.Lanes.length=0 then some 6 else if 12<m.Lanes.length∨12<m.Zones.length∨4<m.Signals.length∨8<m.Works.length then some 8 else none:Option Int).getD 0):=by
    unfold T9
    dsimp only
    rw [Io,lA]
    cases Pd m.Version 0 1099511627776
    ·rfl
    ·simp only [bE,l8,Bool.true_eq_false,if_false]
     by_cases h1:m.Lanes.length=0
     ·rw [l9 h1,h1];rfl
     ·rw [bA h1,show ((m.Lanes.length:Int)==0)=false by simp only [beq_eq_false_iff_ne];omega,l8]
      by_cases h2:12<m.Lanes.length∨12<m.Zones.length∨4<m.Signals.length∨8<m.Works.length
      ·rw [l9 h2,show ((((decide ((m.Lanes.length:Int)>12))||(decide ((m.Zones.length:Int)>12)))||(decide ((m.Signals.length:Int)>4)))||(decide ((m.Works.length:Int)>8)))=true by simp;omega];rfl
      ·rw [bA h2,show ((((decide ((m.Lanes.length:Int)>12))||(decide ((m.Zones.length:Int)>12)))||(decide ((m.Signals.length:Int)>4)))||(decide ((m.Works.length:Int)>8)))=false by simp;omega];rfl
  rw [SE 0 1 _ _ (by (repeat' split);all_goals (intro e' h;first|(cases h;decide)|cases h)) hnum s0]
  by_cases q1:Pd m.Version 0 1099511627776=false
  ·rw [l9 q1,l9 q1];rfl
  ·rw [bA q1,bA q1]
   by_cases q2:m.Lanes.length=0
   ·rw [l9 q2,l9 q2];rfl
   ·rw [bA q2,bA q2]
    by_cases q3:12<m.Lanes.length∨12<m.Zones.length∨4<m.Signals.length∨8<m.Works.length
    ·rw [l9 q3,l9 q3];rfl
    ·rw [bA q3,bA q3]
     dsimp only
     rw [SE 1 2 _ _ (fun e' h=>W0 (fun _ _ _=>Wn) h) (MG B.toBear) s1]
     cases H:I3 (laneE m.Lanes.length) 0 m.Lanes with
     |some e=>rfl
     |none=>
      dsimp only
      rw [SE 2 3 _ _ (fun e' h=>W0 (fun _ _ _=>Ws) h) (Yx B.toBear H).1 s2]
      cases I3 (Gq m) 0 m.Lanes with
      |some e=>rfl
      |none=>
       dsimp only
       rw [SE 3 4 _ _ (fun e' h=>W0 (fun _ _ _=>Lz) h) (FT B.toBear B.toBearS) s3]
       cases I3 (Da m) 0 m.Signals with
       |some e=>rfl
       |none=>
        dsimp only
        rw [SE 4 5 _ _ (fun e' h=>W0 (fun _ _ _=>Ro) h) (ML B.toBear B.toBearZ) s4]
        cases I3 (Kg m) 0 m.Zones with
        |some e=>rfl
        |none=>
         dsimp only
         rw [SE 5 6 _ _ (fun e' h=>W0 (fun _ _ _=>Wr) h) (MN B.toBear B.toBearW) s5]
         cases I3 (Ky m) 0 m.Works with
         |some e=>rfl
         |none=>dsimp only;rw [I6 s6];rfl
/-- What a valid map is. -/
structure ValR (m:Map):Prop where
  ver:0≤m.Version∧m.Version≤1099511627776
  pos:0<m.Lanes.length
  lanes:m.Lanes.length≤12
  zones:m.Zones.length≤12
  signals:m.Signals.length≤4
  works:m.Works.length≤8
  laneE:I3 (laneE m.Lanes.length) 0 m.Lanes=none
  Gq:I3 (Gq m) 0 m.Lanes=none
  Da:I3 (Da m) 0 m.Signals=none
  Kg:I3 (Kg m) 0 m.Zones=none
  Ky:I3 (Ky m) 0 m.Works=none
theorem IR {α:Type}{g:Nat→α→Option Int}{l:List α}(h: ∀i a e,g i a=some e→e≠0)(h0:(I3 g 0 l).getD 0=0):I3 g 0 l=none:=by
  cases q:I3 g 0 l with
  |none=>rfl
  |some e=>rw [q]at h0;exact absurd h0 (W0 h q)
theorem chkR_zero {m:Map}:Km m=0↔ValR m:=by
  unfold Km
  constructor
  ·intro h
   split at h
   ·cases h
   ·rename_i h1
    split at h
    ·cases h
    ·rename_i h2
     split at h
     ·cases h
     ·rename_i h3
      simp only [Pd,Bool.not_eq_false,bC,l6]at h1
      have key: ∀{o r:Option Int},(∀e,o=some e→e≠0)→(o.or r).getD 0=0→o=none∧r.getD 0=0:=by
        intro o r ho hr
        cases o with
        |none=>exact ⟨rfl,hr⟩
        |some e=>exact absurd hr (ho e rfl)
      obtain ⟨a1,h⟩:=key (fun e h=>W0 (fun _ _ _=>Wn) h) h
      obtain ⟨a2,h⟩:=key (fun e h=>W0 (fun _ _ _=>Ws) h) h
      obtain ⟨a3,h⟩:=key (fun e h=>W0 (fun _ _ _=>Lz) h) h
      obtain ⟨a4,h⟩:=key (fun e h=>W0 (fun _ _ _=>Ro) h) h
      exact ⟨h1,by omega,by omega,by omega,by omega,by omega,a1,a2,a3,a4,IR (fun _ _ _=>Wr) h⟩
  ·rintro ⟨h1,h2,h3,h4,h5,h6,a1,a2,a3,a4,a5⟩
   rw [bA (by simp only [Pd,Bool.not_eq_false,bC,l6];exact h1),bA (by omega),bA (by omega),a1,a2,a3,a4,a5];rfl
section
variable {m:Map}
theorem ValR.laneOK (V:ValR m){i:Nat}{l:Lane}(h:m.Lanes[i]? =some l):LaneOK m.Lanes.length i l:=Nu V.laneE h
theorem ValR.next (V:ValR m){i:Nat}{l:Lane}(h:m.Lanes[i]? =some l){k:Int}(hk:k∈l.Next):(i:Int)<k∧k<m.Lanes.length:=by
  have:=Ip (V.laneOK h).next k hk
  omega
end
/-- The lanes in which a lane goes on. -/
def nextOf (m:Map)(a:Nat):List Int:=((m.Lanes[a]?).map (·.Next)).getD []
theorem ValR.nextOf {m:Map}(V:ValR m){a:Nat}{k:Int}(hk:k∈Roadsz.nextOf m a):(a:Int)<k∧k<m.Lanes.length:=by
  unfold Roadsz.nextOf at hk
  cases h:m.Lanes[a]? with
  |none=>rw [h]at hk;cases hk
  |some l=>rw [h]at hk;exact V.next h hk
def MQ (m:Map)(b:Int):Nat→Nat→Bool
  |0,_=>false
  |n+1,a=>(nextOf m a).any fun k=>k==b||MQ m b n k.toNat
/-- Does a lane lead to another one? -/
def SD (m:Map)(a:Nat)(b:Int):Bool:=MQ m b m.Lanes.length a
/-- What is known of the sets of the lanes from a number on. -/
structure Reach (m:Map)(i:Nat)(l:List Nat):Prop where
  len:l.length=12
  small: ∀(a x:Nat),l[a]? =some x→x<2^32
  zero: ∀(a:Nat),a<i→l[a]? =some 0
  bits: ∀(a x:Nat),i≤a→a<m.Lanes.length→l[a]? =some x→∀b:Nat,x.testBit b=SD m a (b:Int)
theorem Reach.get {m:Map}{i:Nat}{l:List Nat}(R:Reach m i l){a:Nat}(h:a<12): ∃x,l[a]? =some x∧x<2^32:=by
  have:=R.len
  exact ⟨l[a],lG (by omega),R.small a _ (lG (by omega))⟩
structure ZoneOK (m:Map)(z:Zone):Prop where
  two:2≤z.Parts.length
  six:z.Parts.length≤6
  sig:0≤z.Signal_∧z.Signal_≤m.Signals.length
  rise:Ae m.Lanes.length 0 (z.Parts.map (·.Lane_))=true
  part: ∀p∈z.Parts,0≤p.From∧p.From<p.To∧p.To≤Dx m p.Lane_∧0≤p.Rank∧p.Rank≤100
theorem ZoneOK.lane {m:Map}{z:Zone}(O:ZoneOK m z){p:Part}(hp:p∈z.Parts):0≤p.Lane_∧p.Lane_<m.Lanes.length:=Ip O.rise p.Lane_ (List.mem_map.2 ⟨p,hp,rfl⟩)
def Su (m:Map):Bool:= !(decide (m.Lanes.length>14)||decide (m.Zones.length>14)||decide (m.Signals.length>6)||decide (m.Works.length>10))&& !(m.Lanes.any fun l=>decide (l.Curve_.Pts.length>18)||decide (l.Next.length>5))&& !(m.Zones.any fun z=>decide (z.Parts.length>8))&& !(m.Signals.any fun s=>decide (s.Phases.length>8)||s.Phases.any fun p=>decide (p.Green.length>14))
theorem DI (m:Map):Il m=some (Su m):=by
  unfold Il Su
  by_cases h:m.Lanes.length>14∨m.Zones.length>14∨m.Signals.length>6∨m.Works.length>10
  ·rw [show (((decide ((m.Lanes.length:Int)>14))||(decide ((m.Zones.length:Int)>14))||(decide ((m.Signals.length:Int)>6)))||(decide ((m.Works.length:Int)>10)))=true by simp;omega,show ((((decide (m.Lanes.length>14))||(decide (m.Zones.length>14)))||(decide (m.Signals.length>6)))||(decide (m.Works.length>10)))=true by simp;omega]
   rfl
  ·rw [show (((decide ((m.Lanes.length:Int)>14))||(decide ((m.Zones.length:Int)>14))||(decide ((m.Signals.length:Int)>6)))||(decide ((m.Works.length:Int)>10)))=false by simp;omega,show ((((decide (m.Lanes.length>14))||(decide (m.Zones.length>14)))||(decide (m.Signals.length>6)))||(decide (m.Works.length>10)))=false by simp;omega,l8]
   rw [Kx m.Lanes (fun l=>decide (l.Curve_.Pts.length>18)||decide (l.Next.length>5)) false (fun i l hl=>by
    have hi:=H5 hl
    unfold Gk
    rw [T8 hi,D1 hl,l7,lA,J8 hi (by omega)]
    by_cases h1:l.Curve_.Pts.length>18
    ·rw [show decide ((l.Curve_.Pts.length:Int)>18)=true from l4 (by omega),show decide (l.Curve_.Pts.length>18)=true from l4 h1];rfl
    ·rw [show decide ((l.Curve_.Pts.length:Int)>18)=false from l5 (by omega),show decide (l.Curve_.Pts.length>18)=false from l5 h1]
     simp only [bF,l7,lA,Bool.false_or]
     by_cases h2:l.Next.length>5
     ·rw [show decide ((l.Next.length:Int)>5)=true from l4 (by omega),show decide (l.Next.length>5)=true from l4 h2];rfl
     ·rw [show decide ((l.Next.length:Int)>5)=false from l5 (by omega),show decide (l.Next.length>5)=false from l5 h2];rfl) (by unfold Gk;rw [Q8];rfl)]
   cases m.Lanes.any fun l=>decide (l.Curve_.Pts.length>18)||decide (l.Next.length>5)
   ·simp only [Bool.false_eq_true,if_false,thenS,bF,bB]
    rw [Kx m.Zones (fun z=>decide (z.Parts.length>8)) false (fun i z hz=>by
     have hi:=H5 hz
     unfold Gj
     rw [T8 hi,D1 hz,l7,lA,J8 hi (by omega)]
     by_cases h1:z.Parts.length>8
     ·rw [show decide ((z.Parts.length:Int)>8)=true from l4 (by omega),show decide (z.Parts.length>8)=true from l4 h1];rfl
     ·rw [show decide ((z.Parts.length:Int)>8)=false from l5 (by omega),show decide (z.Parts.length>8)=false from l5 h1];rfl) (by unfold Gj;rw [Q8];rfl)]
    cases m.Zones.any fun z=>decide (z.Parts.length>8)
    ·simp only [Bool.false_eq_true,if_false,bF,bB]
     rw [Kx m.Signals (fun s=>decide (s.Phases.length>8)||s.Phases.any fun p=>decide (p.Green.length>14)) false (fun i s hs=>by
      have hi:=H5 hs
      unfold Gi
      rw [T8 hi,D1 hs,l7,lA,J8 hi (by omega)]
      by_cases h1:s.Phases.length>8
      ·rw [show decide ((s.Phases.length:Int)>8)=true from l4 (by omega),show decide (s.Phases.length>8)=true from l4 h1];rfl
      ·rw [show decide ((s.Phases.length:Int)>8)=false from l5 (by omega),show decide (s.Phases.length>8)=false from l5 h1,l8,Bool.false_or]
       rw [Kx s.Phases (fun p=>decide (p.Green.length>14)) false (fun j p hp=>by
        have hj:=H5 hp
        unfold Gh
        rw [D1 hs,lA,T8 hj,l7,lA,D1 hp,lA,J8 hj (by omega)]
        by_cases h1:p.Green.length>14
        ·rw [show decide ((p.Green.length:Int)>14)=true from l4 (by omega),show decide (p.Green.length>14)=true from l4 h1];rfl
        ·rw [show decide ((p.Green.length:Int)>14)=false from l5 (by omega),show decide (p.Green.length>14)=false from l5 h1];rfl) (by unfold Gh;rw [D1 hs,lA,Q8];rfl)]
       cases s.Phases.any fun p=>decide (p.Green.length>14)<;>rfl) (by unfold Gi;rw [Q8];rfl)]
     cases m.Signals.any fun s=>decide (s.Phases.length>8)||s.Phases.any fun p=>decide (p.Green.length>14)<;>rfl
    ·rfl
   ·rfl
theorem Wt {m:Map}(h:Su m=true):BearM m:=by
  unfold Su at h
  simp only [bC,Bool.not_eq_true',Bool.or_eq_false_iff,decide_eq_false_iff_not,List.any_eq_false,bD,l6,not_or,Nat.not_lt,gt_iff_lt,List.any_eq_true,not_exists,not_and]at h
  obtain ⟨⟨⟨⟨⟨⟨h1,h2⟩,h3⟩,h4⟩,h5⟩,h6⟩,h7⟩:=h
  refine ⟨⟨by omega,fun l hl=> ?_⟩,⟨by omega,fun s hs=>⟨?_,fun p hp=> ?_⟩⟩,⟨by omega,fun z hz=> ?_⟩,⟨by omega⟩⟩
  ·have:=h5 l hl;omega
  ·have:=(h7 s hs).1;omega
  ·have:=(h7 s hs).2 p hp;omega
  ·have:=h6 z hz;omega
theorem MR:Cm=some true:=law03_awake_le _ (by decide+kernel)
noncomputable def PM (p q:Spot):Int:=rt (H9 (L8 p q) (L8 p q))
theorem Good.inv {last:Option CurveVector}{p q:Spot}{r:List Spot}(h:Good last (p::q::r)):PM p q*PM p q=H9 (L8 p q) (L8 p q)∧1000≤PM p q∧PM p q≤1048576∧(∀u,last=some u→0<H9 u (L8 p q))∧Good (some (L8 p q)) (q::r):=by
  cases h with|cons _ _ _ _ h1 h2 h3 h4 h=>exact ⟨h1,h2,h3,h4,h⟩
def SE (c:CurveCorridor):Ref01Stripe:=⟨c.piece.p,vs c.piece.v,c.piece.l,c.half,c.ends.1,c.ends.2⟩
end Go.Abs.Roadsz
namespace Go.Abs
theorem pickI_mem {α β:Type}{g:Nat→α→Option β}{x:β}: ∀{l:List α} {i:Nat},x∈Gp g i l↔∃j a,l[j]? =some a∧g (i+j) a=some x
  | [],i=>by simp [Gp]
  |a::r,i=>by
   unfold Gp
   have ih:=pickI_mem (g:=g) (x:=x) (l:=r) (i:=i+1)
   have sh:(∃j b,(a::r)[j]? =some b∧g (i+j) b=some x)↔g i a=some x∨∃j b,r[j]? =some b∧g (i+1+j) b=some x:=by
     constructor
     ·rintro ⟨j,b,h1,h2⟩
      cases j with
      |zero=>simp at h1;subst h1;exact .inl h2
      |succ j=>exact .inr ⟨j,b,by simpa using h1,by rwa [show i+1+j=i+ (j+1) by omega]⟩
     ·rintro (h|⟨j,b,h1,h2⟩)
      ·exact ⟨0,a,rfl,h⟩
      ·exact ⟨j+1,b,by simpa using h1,by rwa [show i+ (j+1)=i+1+j by omega]⟩
   rw [sh,← ih]
   cases h:g i a with
   |none=>simp
   |some b=>simp [eq_comm]
end Go.Abs
namespace Go.Abs.Roadsz
open Go Go.Abs
/-! ### How long lanes are -/
theorem MS: ∀(l:List Int) (s:Int),(∀x∈l,0≤x∧x≤1048576)→0≤s→s+1048576*l.length≤9000000000000000000→s≤Py s l∧Py s l≤s+1048576*l.length
  | [],s,_,_,_=>by simp [Py]
  |a::r,s,h,h0,h1=>by
   have ha:=h a (by simp)
   simp only [lJ]at h1 ⊢
   rw [Py,P0 (by omega)]
   have:=MS r (s+a) (fun x hx=>h x (by simp [hx])) (by omega) (by omega)
   omega
theorem MT: ∀{l:List Spot} {last:Option CurveVector},Good last l→∀x∈Ol l,1000≤x∧x≤1048576:=by
  intro l last h
  induction h with
  |one last p=>intro x hx;simp [Ol]at hx
  |cons last p q r h1 h2 h3 h4 h ih=>
   intro x hx
   rw [Kw,lR]at hx
   rcases hx with rfl|hx
   ·exact ⟨h2,h3⟩
   ·exact ih x hx
theorem PN {c:Curve}(h:X5 c.Pts=0):1000≤MF c∧MF c≤16777216:=by
  have V:=checkM_zero.1 h
  unfold MF Fl
  rw [l9 h]
  have h16:=V.most
  have h2:=V.two
  have hm:=MT V.good
  cases hp:c.Pts with
  |nil=>rw [hp]at h2;simp at h2
  |cons p r=>
   rw [hp]at hm h16 h2
   cases r with
   |nil=>simp at h2
   |cons q r=>
    simp only [lJ]at h16
    rw [Kw]at hm ⊢
    have ha:=hm _ (List.mem_cons_self)
    have hl:=Kf r q
    rw [Py,P0 (by omega),Int.zero_add]
    have:=MS (Ol (q::r)) (rt (H9 (L8 p q) (L8 p q))) (fun x hx=>by have:=hm x (List.mem_cons_of_mem _ hx);omega) (by omega) (by rw [hl];omega)
    rw [hl]at this
    omega
theorem ValR.long {m:Map}(V:ValR m){k:Int}(h0:0≤k)(h1:k<m.Lanes.length):1000≤Dx m k∧Dx m k≤16777216:=by
  obtain ⟨l,e1,e2⟩:=Rn h0 h1
  unfold Dx
  rw [e1]
  exact PN (V.laneOK e1).curve
/-! ### Routes -/
end Go.Abs.Roadsz
namespace Go.Abs
open Go
section
variable {α β σ τ:Type}
end
end Go.Abs
namespace Go.Abs.Roadsz
open Go Go.Abs
end Go.Abs.Roadsz
namespace Go.Abs
open Go
theorem Yy {α:Type}: ∀(l:List α) (i:Nat) (s:List α),Rm (fun _ s a=>s++ [a]) i s l=s++l
  | [],_,s=>by simp [Rm]
  |a::r,i,s=>by rw [Rm,Yy r];simp
theorem Hp {α:Type}{l:List α}(h:l.length≤1000000):U5 ([]:List α) l=some l:=Fk (by simp;omega)
/-- A loop that copies a list, in a state. -/
theorem TP {α S τ:Type}{F:S→Option (Stp S τ)}(pk:Nat→List α→S)(l:List α)(fin:List α→τ){S0:S}(hS:pk 0 []=S0)
    (hF: ∀(i:Nat) a (s:List α),l[i]? =some a→s.length≤i→F (pk i s)=some (.go (pk (i+1) (s++ [a])))) (h0: ∀s,F (pk l.length s)=some (.out (fin s))):loop F S0=some (fin l):=by
  have:=QH pk l (fun i s=>s.length≤i) (fun _ s a=>s++ [a]) fin hS (by simp) hF (fun i a s _ hs=>by simp;omega) (fun s _=>h0 s)
  rw [this,Yy,lN]
end Go.Abs
namespace Go.Abs.Roadsz
open Go Go.Abs
theorem GZ {l:List Int}(h:l.length≤1000000):Hc l=some l:=by unfold Hc;rw [Hp h];rfl
theorem FV {l:Lane}(h1:l.Curve_.Pts.length≤1000000)(h2:l.Next.length≤1000000):Fi l=some l:=by
  unfold Fi Lr
  rw [Hp h1,lA,lA,GZ h2];rfl
theorem FW {z:Zone}(h:z.Parts.length≤1000000):Fj z=some z:=by unfold Fj;rw [Hp h];rfl
theorem AJ {s:Signal}(h1:s.Phases.length≤1000000)(h2: ∀p∈s.Phases,p.Green.length≤1000000):Dl s=some s:=by
  unfold Dl
  rw [TP (fun i l=>(l,(i:Int))) s.Phases id (S0:=([],0)) rfl (fun i p l h hl=>by
   have hi:=H5 h
   unfold Ac
   dsimp only
   rw [T8 hi,D1 h,l7,lA,lA,GZ (h2 p (lF h)),lA,Fk (by simp;omega),lA,J8 hi (by omega)]) (fun l=>by unfold Ac;rw [Q8];rfl)]
  rfl
theorem Pf {l:List Int}(h:l.length≤1000000):Aa l l=some true:=by
  unfold Aa
  rw [Kx l (fun _=>false) false (fun i a h=>by
   have hi:=H5 h
   unfold R1
   rw [T8 hi,D1 h,J8 hi (by omega)]
   simp) (by unfold R1;rw [Q8];rfl)]
  simp [thenS]
theorem Wu {c:Curve}(h:c.Pts.length≤1000000):Hb c c=some true:=by
  unfold Hb
  rw [show ((c.Pts.length:Int) !=(c.Pts.length:Int))=false by simp,l8,Kx c.Pts (fun _=>false) false (fun i a h=>by
   have hi:=H5 h
   unfold Bp
   rw [T8 hi,D1 h,J8 hi (by omega)]
   simp) (by unfold Bp;rw [Q8];rfl)]
  simp [thenS]
theorem Xq {l:Lane}(h1:l.Curve_.Pts.length≤1000000)(h2:l.Next.length≤1000000):W9 l l=some true:=by
  unfold W9
  rw [Wu h1,Pf h2]
  simp
theorem Xr {z:Zone}(h:z.Parts.length≤1000000):Ab z z=some true:=by
  unfold Ab
  rw [Kx z.Parts (fun _=>false) false (fun i a h=>by
   have hi:=H5 h
   unfold R2
   rw [T8 hi,D1 h,J8 hi (by omega)]
   simp) (by unfold R2;rw [Q8];rfl)]
  simp [thenS]
theorem Uj {s:Signal}(h1:s.Phases.length≤1000000)(h2: ∀p∈s.Phases,p.Green.length≤1000000):V9 s s=some true:=by
  unfold V9
  rw [Kx s.Phases (fun _=>false) false (fun i a h=>by
   have hi:=H5 h
   unfold P6
   rw [T8 hi,D1 h,J8 hi (by omega)]
   simp [Pf (h2 a (lF h))]) (by unfold P6;rw [Q8];rfl)]
  simp [thenS]
/-- Lists one behind the other. -/
theorem MU {α:Type}(l:List (List α))(F:Int×Int→Option (Stp (Int×Int) Int))(hF: ∀(s:Int) (i:Nat) (x:List α),l[i]? =some x→F (s,(i:Int))=cond (decide ((I8 (s+ (x.length:Int)))<0)) none (some (.go ((I8 (s+ (x.length:Int))),(I8 ((i:Int)+1))))))(h0: ∀s,F (s,(l.length:Int))=some (.out s))(hl:l.length≤1000)(hs:l.flatten.length≤1000000):
    loop F (0,0)=some (l.flatten.length:Int):=by
  have key: ∀(r:List (List α)) (i:Nat) (s:Nat),l.drop i=r→i≤l.length→s+r.flatten.length≤1000000→loop F ((s:Int),(i:Int))=some ((s+r.flatten.length:Nat):Int):=by
    intro r
    induction r with
    |nil=>
     intro i s hi hil _
     have:=X7 hi
     obtain rfl:i=l.length:=by omega
     rw [I6 (h0 _)];simp
    |cons x r ih=>
     intro i s hi hil hb
     have hlt:=U7 hi
     rw [List.flatten_cons,lK]at hb ⊢
     have h:=hF (s:Int) i x (Nv hi)
     rw [P0 (by omega),l5 (by omega),l8,J8 hlt (by omega)]at h
     rw [R7 h,show (s:Int)+ (x.length:Int)=((s+x.length:Nat):Int) by omega,ih (i+1) (s+x.length) (Q1 hi) hlt (by omega)]
     congr 2;omega
  have:=key l 0 0 rfl (by omega) (by omega)
  rw [bN]at this
  exact this
theorem MV {α:Type}(l:List (List α))(F:List α×Int→Option (Stp (List α×Int) (List α)))(hF: ∀(s:List α) (i:Nat) (x:List α),l[i]? =some x→F (s,(i:Int))=(U5 s x).bind fun v=>some (.go (v,(I8 ((i:Int)+1)))))(h0: ∀s,F (s,(l.length:Int))=some (.out s))(hl:l.length≤1000)(hs:l.flatten.length≤1000000):
    loop F ([],0)=some l.flatten:=by
  have key: ∀(r:List (List α)) (i:Nat) (s:List α),l.drop i=r→i≤l.length→s.length+r.flatten.length≤1000000→loop F (s,(i:Int))=some (s++r.flatten):=by
    intro r
    induction r with
    |nil=>
     intro i s hi hil _
     have:=X7 hi
     obtain rfl:i=l.length:=by omega
     rw [I6 (h0 _)];simp
    |cons x r ih=>
     intro i s hi hil hb
     have hlt:=U7 hi
     rw [List.flatten_cons,lK]at hb
     have h:=hF s i x (Nv hi)
     rw [Fk (by omega),lA,J8 hlt (by omega)]at h
     rw [R7 h,ih (i+1) _ (Q1 hi) hlt (by rw [lK];omega)]
     simp
  have:=key l 0 [] rfl (by omega) (by simpa using hs)
  rw [lN]at this
  exact this
theorem MW {n:Nat}(h:n≤1000000):CR (n:Int)=some ():=l9 (by omega)
noncomputable def eqB {α:Type}(a b:α):Bool:= @decide (a=b) (Classical.propDecidable _)
theorem eqB_iff {α:Type}{a b:α}:eqB a b=true↔a=b:= @decide_eq_true_iff (a=b) (Classical.propDecidable _)
theorem SF {α:Type}{a b:α}(h:a≠b):eqB a b=false:=by
  cases q:eqB a b
  ·rfl
  ·exact absurd (eqB_iff.1 q) h
theorem AL {α:Type}: ∀(l l':List α),(!((l.zip l').any fun q=> !eqB q.1 q.2)&& (l.length==l'.length))=eqB l l'
  | [],[]=>by rw [Bool.eq_iff_iff];simp [eqB_iff]
  | [],b::r=>by rw [Bool.eq_iff_iff];simp [eqB_iff]
  |a::r,[]=>by rw [Bool.eq_iff_iff];simp [eqB_iff]
  |a::r,b::r'=>by
   have ih:=Bool.eq_iff_iff.1 (AL r r')
   rw [eqB_iff]at ih
   rw [Bool.eq_iff_iff,eqB_iff,List.cons.injEq,← ih]
   simp [eqB_iff,and_assoc]
theorem Up {α β:Type}{l:List α}{l':List β}{i:Nat}{p:α×β}(h:(l.zip l')[i]? =some p):l[i]? =some p.1∧l'[i]? =some p.2:=List.getElem?_zip_eq_some.1 h
/-- Equal length first, then element by element. -/
theorem Wv {α:Type}(l l':List α)(F:Int→Option (Stp Int (Sum Unit Bool)))(hF: ∀(i:Nat) a b,l[i]? =some a→l'[i]? =some b→F (i:Int)=some (cond (!eqB a b) (.out (.inr false)) (.go ((i+1:Nat):Int))))(h0:F (l.length:Int)=some (.out (.inl ()))):
    cond ((l.length:Int) !=(l'.length:Int)) (some false) (thenS (loop F 0) (fun _=>some true) (fun r=>some r))=some (eqB l l'):=by
  by_cases q:l.length=l'.length
  ·rw [← q,show ((l.length:Int) !=(l.length:Int))=false by simp,l8,← AL,← q]
   rw [Kx (l.zip l') (fun q=> !eqB q.1 q.2) false (fun i p h=>by
    obtain ⟨h1,h2⟩:=Up h
    rw [hF i p.1 p.2 h1 h2];cases eqB p.1 p.2<;>rfl) (by rw [List.length_zip,← q,Nat.min_self];exact h0)]
   cases (l.zip l').any fun q=> !eqB q.1 q.2<;>simp [thenS]
  ·rw [show ((l.length:Int) !=(l'.length:Int))=true by rw [bne_iff_ne];omega,l7,SF (fun h=>q (by rw [h]))]
theorem AM {α:Type}(l l':List α)(F:Int→Option (Stp Int (Sum Unit Bool)))(hF: ∀(i:Nat) a b,l[i]? =some a→l'[i]? =some b→F (i:Int)=some (cond (!eqB a b) (.out (.inr false)) (.go ((i+1:Nat):Int))))(h0:F (min l.length l'.length:Nat)=some (.out (.inl ())))(G:Unit→Option Bool)(c:Bool)(hG:G ()=some (c&& (l.length==l'.length))):
    thenS (loop F 0) G (fun r=>some r)=some (c&&eqB l l'):=by
  rw [← AL]
  rw [Kx (l.zip l') (fun q=> !eqB q.1 q.2) false (fun i p h=>by
      obtain ⟨h1,h2⟩:=Up h
      rw [hF i p.1 p.2 h1 h2];cases eqB p.1 p.2<;>rfl) (by rw [List.length_zip];exact h0)]
  cases (l.zip l').any fun q=> !eqB q.1 q.2
  ·simp [thenS,hG]
  ·simp [thenS]
theorem QI (a b:Int):(a !=b)= !eqB a b:=by rw [Bool.eq_iff_iff];simp [← Bool.not_eq_true,eqB_iff]
theorem MX (a b:Spot):(a.X==b.X&& (a.Y==b.Y&&true))=eqB a b:=by
  cases a;cases b;rw [Bool.eq_iff_iff,eqB_iff];simp
theorem MY (a b:Part):(a.Lane_==b.Lane_&& (a.From==b.From&& (a.To==b.To&& (a.Rank==b.Rank&&true))))=eqB a b:=by
  cases a;cases b;rw [Bool.eq_iff_iff,eqB_iff];simp
theorem MZ (a b:Work):(a.Lane_==b.Lane_&& (a.From==b.From&& (a.To==b.To&& (a.Begin==b.Begin&& (a.End==b.End&& (a.Limit==b.Limit&&true))))))=eqB a b:=by
  cases a;cases b;rw [Bool.eq_iff_iff,eqB_iff];simp
theorem HA (a b:Phase):((a.Ticks==b.Ticks)&&eqB a.Green b.Green)=eqB a b:=by
  cases a;cases b;rw [Bool.eq_iff_iff,eqB_iff];simp [eqB_iff]
theorem DJ (a b:Signal):((a.Offset==b.Offset)&&eqB a.Phases b.Phases)=eqB a b:=by
  cases a;cases b;rw [Bool.eq_iff_iff,eqB_iff];simp [eqB_iff]
theorem NA (a b:Zone):((a.Signal_==b.Signal_)&&eqB a.Parts b.Parts)=eqB a b:=by
  cases a;cases b;rw [Bool.eq_iff_iff,eqB_iff];simp [eqB_iff,and_comm]
theorem HB (a b:Curve):eqB a.Pts b.Pts=eqB a b:=by
  cases a;cases b;rw [Bool.eq_iff_iff,eqB_iff];simp [eqB_iff]
theorem NB (a b:Lane):(((((a.Kind==b.Kind)&& (a.Half==b.Half))&& (a.Limit==b.Limit))&&eqB a.Curve_ b.Curve_)&&eqB a.Next b.Next)=eqB a b:=by
  cases a;cases b;rw [Bool.eq_iff_iff,eqB_iff];simp [eqB_iff]
  constructor
  ·rintro ⟨⟨⟨⟨h1,h2⟩,h3⟩,h4⟩,h5⟩;exact ⟨h1,h4,h2,h3,h5⟩
  ·rintro ⟨h1,h4,h2,h3,h5⟩;exact ⟨⟨⟨⟨h1,h2⟩,h3⟩,h4⟩,h5⟩
theorem SG {l l':List Spot}(h:l.length≤1000000):Y2 l l'=some (eqB l l'):=
  Wv l l' _ (fun i a b ha hb=>by
   unfold Q9
   rw [T8 (H5 ha),l7,D1 ha,D1 hb,lA,lA,MX,J8 (H5 ha) (by omega)]
   cases eqB a b<;>rfl) (by unfold Q9;rw [Q8];rfl)
theorem QJ {l l':List Int}(h:l.length≤1000000):W7 l l'=some (eqB l l'):=
  Wv l l' _ (fun i a b ha hb=>by
   unfold S7
   rw [T8 (H5 ha),l7,D1 ha,D1 hb,lA,lA,QI,J8 (H5 ha) (by omega)]
   cases eqB a b<;>rfl) (by unfold S7;rw [Q8];rfl)
theorem SH {l l':List Part}(h:l.length≤1000000):Y3 l l'=some (eqB l l'):=
  Wv l l' _ (fun i a b ha hb=>by
   unfold R0
   rw [T8 (H5 ha),l7,D1 ha,D1 hb,lA,lA,MY,J8 (H5 ha) (by omega)]
   cases eqB a b<;>rfl) (by unfold R0;rw [Q8];rfl)
theorem DK {a b:Lane}(h1:a.Curve_.Pts.length≤1000000)(h2:a.Next.length≤1000000):Cc a b=some (eqB a b):=by
  unfold Cc Lo
  rw [SG h1,QJ h2,HB,← NB a b]
  cases ((a.Kind==b.Kind)&& (a.Half==b.Half))&& (a.Limit==b.Limit)
  ·rfl
  ·cases eqB a.Curve_ b.Curve_<;>rfl
theorem DL {a b:Zone}(h:a.Parts.length≤1000000):Cd a b=some (eqB a b):=by
  unfold Cd
  rw [SH h,← NA a b]
  cases a.Signal_==b.Signal_<;>rfl
theorem AN {a b:Phase}(h:a.Green.length≤1000000):Z6 a b=some (eqB a b):=by
  unfold Z6
  rw [QJ h,← HA a b]
  cases a.Ticks==b.Ticks<;>rfl
theorem Xs {a b:Signal}(h:a.Phases.length≤1000000)(hg: ∀p∈a.Phases,p.Green.length≤1000000):Z0 a b=some (eqB a b):=by
  unfold Z0
  have e:G5 a.Phases b.Phases=some (eqB a.Phases b.Phases):=
    Wv _ _ _ (fun i x y ha hb=>by
     unfold E2
     rw [T8 (H5 ha),l7,D1 ha,D1 hb,lA,lA,AN (hg x (lF ha)),lA,J8 (H5 ha) (by omega)]
     cases eqB x y<;>rfl) (by unfold E2;rw [Q8];rfl)
  rw [e,← DJ a b]
  cases a.Offset==b.Offset<;>rfl
theorem DM {a b:Work}:Ce a b=some (eqB a b):=by
  unfold Ce;rw [MZ]
/-! ### The document's twins -/
theorem TY {i a b:Nat}(h1:i<a)(h2:i<b):((decide ((i:Int)< (a:Int)))&& (decide ((i:Int)< (b:Int))))=true:=by
  rw [l4 (by omega),l4 (by omega)];rfl
theorem PO (a b:Nat):((decide (((min a b:Nat):Int)< (a:Int)))&& (decide (((min a b:Nat):Int)< (b:Int))))=false:=by
  rcases Nat.le_total a b with h|h
  ·rw [Nat.min_eq_left h,l5 (by omega)];rfl
  ·rw [Nat.min_eq_right h,l5 (p:=(b:Int)< (b:Int)) (by omega),Bool.and_false]
theorem AO (a b:Nat):((a:Int)==(b:Int))=(a==b):=by rw [Bool.eq_iff_iff,bH,bH];omega
theorem DN {l l':List Int}(h:l.length≤1000000):Aa l l'=some (eqB l l'):=by
  have:=AM l l' (R1 l l') (fun i a b ha hb=>by
    unfold R1
    rw [TY (H5 ha) (H5 hb),l7,D1 ha,D1 hb,lA,lA,QI,J8 (H5 ha) (by omega)]
    cases eqB a b<;>rfl) (by unfold R1;rw [PO];rfl) (fun _=>some ((l.length:Int)==(l'.length:Int))) true (by rw [AO];rfl)
  rw [bB]at this
  exact this
theorem IS {a b:Curve}(h:a.Pts.length≤1000000):Hb a b=some (eqB a b):=by
  rw [← HB]
  exact Wv a.Pts b.Pts _ (fun i x y ha hb=>by
    unfold Bp
    rw [T8 (H5 ha),l7,D1 ha,D1 hb,lA,lA,MX,J8 (H5 ha) (by omega)]
    cases eqB x y<;>rfl) (by unfold Bp;rw [Q8];rfl)
theorem NC {a b:Lane}(h1:a.Curve_.Pts.length≤1000000)(h2:a.Next.length≤1000000):W9 a b=some (eqB a b):=by
  unfold W9
  rw [IS h1,DN h2,← NB a b]
  cases ((a.Kind==b.Kind)&& (a.Half==b.Half))&& (a.Limit==b.Limit)
  ·rfl
  ·cases eqB a.Curve_ b.Curve_<;>rfl
theorem ND {a b:Zone}(h:a.Parts.length≤1000000):Ab a b=some (eqB a b):=by
  rw [← NA]
  exact AM a.Parts b.Parts (R2 a b) (fun i x y ha hb=>by
    unfold R2
    rw [TY (H5 ha) (H5 hb),l7,D1 ha,D1 hb,lA,lA,MY,J8 (H5 ha) (by omega)]
    cases eqB x y<;>rfl) (by unfold R2;rw [PO];rfl) _ _ (by rw [AO])
theorem FX {a b:Signal}(h:a.Phases.length≤1000000)(hg: ∀p∈a.Phases,p.Green.length≤1000000):V9 a b=some (eqB a b):=by
  rw [← DJ]
  exact AM a.Phases b.Phases (P6 a b) (fun i x y ha hb=>by
    unfold P6
    rw [TY (H5 ha) (H5 hb),l7,D1 ha,D1 hb,lA,lA,← HA,J8 (H5 ha) (by omega),show (x.Ticks !=y.Ticks)= !(x.Ticks==y.Ticks) from rfl]
    cases x.Ticks==y.Ticks
    ·rfl
    ·simp only [bE,bF,l7,lA,DN (hg x (lF ha)),bB,Bool.false_or]
     cases eqB x.Green y.Green<;>rfl) (by unfold P6;rw [PO];rfl) _ _ (by rw [AO])
/-! ### The edits of one table -/
def Af (k t i:Int):Edit:=Edit.mk k t i (Lane.mk 0 (Curve.mk []) 0 0 []) (Zone.mk [] 0) (Signal.mk 0 []) (Work.mk 0 0 0 0 0 0)
def Tn {E:Type}(g:Nat→E)(lo:Nat):Nat→List E
  |0=> []
  |n+1=>g (lo+n)::Tn g lo n
theorem Yz {E:Type}(g:Nat→E)(lo:Nat): ∀n,(Tn g lo n).length=n
  |0=>rfl
  |n+1=>by rw [Tn,lJ,Yz]
theorem QK {α E S τ:Type}{F:S→Option (Stp S τ)}(pk:Int→List E→S)(l:List α)(g:Nat→α→Option E)(fin:List E→τ)(B:Nat)
    (hF: ∀(i:Nat) a (s:List E),l[i]? =some a→s.length+1≤B→F (pk (i:Int) s)=some (.go (pk ((i+1:Nat):Int) (match g i a with|some b=>s++ [b]|none=>s))))
    (h0: ∀s,F (pk (l.length:Int) s)=some (.out (fin s))): ∀(r:List α) (i:Nat) (s:List E),l.drop i=r→i≤l.length→s.length+r.length≤B→loop F (pk (i:Int) s)=some (fin (s++Gp g i r)):=by
  intro r
  induction r with
  |nil=>
   intro i s hi hil _
   have:=X7 hi
   obtain rfl:i=l.length:=by omega
   rw [I6 (h0 _)];simp [Gp]
  |cons x r ih=>
   intro i s hi hil hb
   have hlt:=U7 hi
   rw [lJ]at hb
   rw [R7 (hF i x s (Nv hi) (by omega)),ih (i+1) _ (Q1 hi) hlt (by cases g i x<;>simp<;>omega),Gp]
   cases g i x with
   |none=>rfl
   |some b=>dsimp only;rw [lM];rfl
theorem TQ {E S τ:Type}{F:S→Option (Stp S τ)}(pk:Int→List E→S)(g:Nat→E)(fin:List E→τ)(B lo hi:Nat)
    (hF: ∀(i:Nat) (s:List E),lo≤i→i<hi→s.length+1≤B→F (pk (i:Int) s)=some (.go (pk ((i:Int) - 1) (s++ [g i]))))
    (h0: ∀s,F (pk ((lo:Int) - 1) s)=some (.out (fin s))): ∀(n:Nat) (s:List E),lo+n≤hi→s.length+n≤B→loop F (pk (((lo+n:Nat):Int) - 1) s)=some (fin (s++Tn g lo n)):=by
  intro n
  induction n with
  |zero=>intro s _ _;rw [Nat.add_zero,I6 (h0 s)];simp [Tn]
  |succ n ih=>
   intro s h1 h2
   rw [show ((lo+ (n+1):Nat):Int) - 1=((lo+n:Nat):Int) by omega,R7 (hF (lo+n) s (by omega) (by omega) (by omega)),ih _ (by omega) (by simp;omega)]
   simp [Tn]
noncomputable def Rp {α:Type}(t:Int)(put:Edit→α→Edit)(a b:List α):List Edit:=Gp (fun i (p:α×α)=>if eqB p.1 p.2=true then none else some (put (Af 3 t i) p.2)) 0 (a.zip b)
noncomputable def Xt {α:Type}(t:Int)(a b:List α):List Edit:=Tn (fun i=>Af 2 t i) (min a.length b.length) (a.length - min a.length b.length)
noncomputable def IT {α:Type}(t:Int)(put:Edit→α→Edit)(a b:List α):List Edit:=Gp (fun i y=>some (put (Af 1 t i) y)) a.length (b.drop a.length)
noncomputable def X6 {α:Type}(t:Int)(put:Edit→α→Edit)(a b:List α):List Edit:=Rp t put a b++ (Xt t a b++IT t put a b)
theorem AP {α:Type}(t:Int)(put:Edit→α→Edit)(a b:List α):(Rp t put a b).length≤min a.length b.length:=by
  have:=Ss (fun i (p:α×α)=>if eqB p.1 p.2=true then none else some (put (Af 3 t i) p.2)) (a.zip b) 0
  rw [List.length_zip]at this
  exact this
theorem AQ {α:Type}(t:Int)(a b:List α):(Xt t a b).length≤a.length:=by unfold Xt;rw [Yz];omega
theorem PP {α:Type}(t:Int)(put:Edit→α→Edit)(a b:List α):(IT t put a b).length≤b.length:=by
  have:=Ss (fun i y=>some (put (Af 1 t i) y)) (b.drop a.length) a.length
  rw [List.length_drop]at this
  unfold IT;omega
theorem Hd {α:Type}(t:Int)(put:Edit→α→Edit)(a b:List α):(X6 t put a b).length≤2*a.length+b.length:=by
  have:=AP t put a b
  have:=AQ t a b
  have:=PP t put a b
  unfold X6
  simp only [lK]
  omega
section run
variable {α S τ:Type}(pk:Int→List Edit→S)(fin:List Edit→τ)(t:Int)(put:Edit→α→Edit)(a b:List α)(B:Nat)
theorem HC {F:S→Option (Stp S τ)}(h1: ∀(i:Nat) x y (s:List Edit),a[i]? =some x→b[i]? =some y→s.length+1≤B→F (pk (i:Int) s)=some (.go (pk ((i+1:Nat):Int) (cond (!eqB x y) (s++ [put (Af 3 t i) y]) s))))
    (h2: ∀s,F (pk ((min a.length b.length:Nat):Int) s)=some (.out (fin s))) (s:List Edit) (hs:s.length+a.length≤B):loop F (pk 0 s)=some (fin (s++Rp t put a b)):=by
  refine QK pk (a.zip b) (fun i (p:α×α)=>if eqB p.1 p.2=true then none else some (put (Af 3 t i) p.2)) fin B (fun i p s h hl=> ?_) (fun s=>by rw [List.length_zip];exact h2 s) (a.zip b) 0 s rfl (by omega) (by rw [List.length_zip];omega)
  obtain ⟨ha,hb⟩:=Up h
  rw [h1 i p.1 p.2 s ha hb hl]
  cases eqB p.1 p.2<;>rfl
theorem HD {F:S→Option (Stp S τ)}(h1: ∀(i:Nat) (s:List Edit),min a.length b.length≤i→i<a.length→s.length+1≤B→F (pk (i:Int) s)=some (.go (pk ((i:Int) - 1) (s++ [Af 2 t i]))))
    (h2: ∀s,F (pk (((min a.length b.length:Nat):Int) - 1) s)=some (.out (fin s))) (s:List Edit) (hs:s.length+a.length≤B):loop F (pk ((a.length:Int) - 1) s)=some (fin (s++Xt t a b)):=by
  have h:=TQ pk (fun i=>Af 2 t i) fin B (min a.length b.length) a.length (fun i s=>h1 i s) h2 (a.length - min a.length b.length) s (by omega) (by omega)
  rw [show min a.length b.length+ (a.length - min a.length b.length)=a.length by omega]at h
  exact h
theorem HE {F:S→Option (Stp S τ)}(h1: ∀(i:Nat) y (s:List Edit),b[i]? =some y→s.length+1≤B→F (pk (i:Int) s)=some (.go (pk ((i+1:Nat):Int) (s++ [put (Af 1 t i) y]))))
    (h2: ∀(i:Nat) s,b.length≤i→F (pk (i:Int) s)=some (.out (fin s))) (i:Nat) (hi:i=a.length∨i=b.length∧b.length≤a.length) (s:List Edit) (hs:s.length+b.length≤B):loop F (pk (i:Int) s)=some (fin (s++IT t put a b)):=by
  by_cases q:b.length≤a.length
  ·have hd:b.drop a.length= []:=List.drop_eq_nil_of_le q
   rw [I6 (h2 i s (by omega))];unfold IT;rw [hd];simp [Gp]
  ·obtain rfl:i=a.length:=by omega
   exact QK pk b (fun i y=>some (put (Af 1 t i) y)) fin B (fun i y s h hl=>h1 i y s h hl) (fun s=>h2 _ s (bK _)) (b.drop a.length) a.length s rfl (by omega) (by rw [List.length_drop];omega)
end run
theorem Rr (a b:Nat):Ej false (a:Int) (b:Int)=((min a b:Nat):Int):=by rw [GR];omega
theorem NE {a b:Int}(h:b≤a):decide (a≥b)=true:=l4 h
theorem AR {α:Type}(t:Int)(put:Edit→α→Edit)(a b:List α)(same:α→α→Option Bool)(D:Edit→α→Option Edit)(hs: ∀x∈a,∀y∈b,same x y=some (eqB x y))(hD: ∀e,∀y∈b,D e y=some (put e y))(ha:a.length≤1000)(hb:b.length≤1000)
    (F1 F2 F3:List Edit×Int→Option (Stp (List Edit×Int) (List Edit)))
    (h1: ∀x1,F1 x1=cond (decide (x1.2< (Ej false (a.length:Int) (b.length:Int)))) ((D6 a x1.2).bind fun v1=>(D6 b x1.2).bind fun v2=>(same v1 v2).bind fun v3=>cond (!v3) ((D6 b x1.2).bind fun v4=>(D (Af 3 t x1.2) v4).bind fun v5=>(U5 x1.1 [v5]).bind fun v6=>some (.go (v6,(I8 (x1.2+1))))) (some (.go (x1.1,(I8 (x1.2+1)))))) (some (.out x1.1)))
    (h2: ∀x2,F2 x2=cond (decide (x2.2≥(Ej false (a.length:Int) (b.length:Int)))) ((U5 x2.1 [(Af 2 t x2.2)]).bind fun v7=>some (.go (v7,(I8 (x2.2 - 1))))) (some (.out x2.1)))
    (h3: ∀x3,F3 x3=cond (decide (x3.2< (b.length:Int))) ((D6 b x3.2).bind fun v8=>(D (Af 1 t x3.2) v8).bind fun v9=>(U5 x3.1 [v9]).bind fun v10=>some (.go (v10,(I8 (x3.2+1))))) (some (.out x3.1))):
    ((loop F1 ([],0)).bind fun y1=>(loop F2 (y1,(I8 ((a.length:Int) - 1)))).bind fun y2=>(loop F3 (y2,(Ej false (a.length:Int) (b.length:Int)))).bind fun y3=>some y3)=some (X6 t put a b):=by
  have l1:=AP t put a b
  have l2:=AQ t a b
  have r1:=HC (F:=F1) (fun i s=>(s,i)) id t put a b 10000 (fun i x y s hx hy hl=>by
    have:=H5 hx
    have:=H5 hy
    rw [h1];dsimp only
    rw [Rr,T8 (by omega),l7,D1 hx,D1 hy,lA,lA,hs x (lF hx) y (lF hy),lA,lA,hD _ y (lF hy),lA,Fk (by simp;omega),J8 (H5 hx) (by omega)]
    cases eqB x y<;>rfl) (fun s=>by rw [h1,Rr,Q8];rfl) [] (by simp;omega)
  have r2:=HD (F:=F2) (fun i s=>(s,i)) id t a b 10000 (fun i s hi1 hi2 hl=>by
    rw [h2];dsimp only
    rw [Rr,NE (by omega),l7,Fk (by simp;omega),lA,P0 (by omega)]) (fun s=>by
    rw [h2];dsimp only
    rw [Rr,l5 (by omega)];rfl) (Rp t put a b) (by omega)
  have r3:=HE (F:=F3) (fun i s=>(s,i)) id t put a b 10000 (fun i y s hy hl=>by
    rw [h3];dsimp only
    rw [T8 (H5 hy),l7,D1 hy,lA,hD _ y (lF hy),lA,Fk (by simp;omega),lA,J8 (H5 hy) (by omega)]) (fun i s hi=>by
    rw [h3];dsimp only
    rw [l5 (by omega)];rfl) (min a.length b.length) (by omega) (Rp t put a b++Xt t a b) (by rw [lK];omega)
  rw [lN]at r1
  rw [show loop F1 ([],0)=some (Rp t put a b) from r1,lA,P0 (by omega),show loop F2 (Rp t put a b,(a.length:Int) - 1)=some (Rp t put a b++Xt t a b) from r2,lA,Rr,show loop F3 (Rp t put a b++Xt t a b,((min a.length b.length:Nat):Int))=some (Rp t put a b++Xt t a b++IT t put a b) from r3]
  unfold X6
  rw [lM];rfl
/-! ### The program -/
theorem FY {l:Lane}(h1:l.Curve_.Pts.length≤1000000)(h2:l.Next.length≤1000000):Ff l=some l:=by
  unfold Ff Lq Hg Cv W8
  rw [Hp h1,Hp h2];rfl
theorem FZ {z:Zone}(h:z.Parts.length≤1000000):Fg z=some z:=by
  unfold Fg Cw
  rw [Hp h];rfl
theorem AS {s:Signal}(h1:s.Phases.length≤1000000)(h2: ∀p∈s.Phases,p.Green.length≤1000000):Dg s=some s:=by
  unfold Dg W4
  rw [Hp h1,lA]
  have:=MJ (F:=V4 s.Phases) (σ:=Unit) (fun i _=>((i:Int),s)) s.Phases (fun _ _=>True) (fun _ _ _=> .inl ()) (fun _=>s) (s0:=()) (S0:=(0,Signal.mk s.Offset s.Phases)) rfl trivial (fun i p _ h _=>by
    have hi:=H5 h
    unfold V4 W8
    dsimp only
    rw [T8 hi,D1 h,l7,lA,Hp (h2 p (lF h)),lA,lA,J8 hi (by omega)]
    have e:Zx s.Phases (i:Int) (Phase.mk p.Ticks p.Green)=s.Phases:=by
      unfold Zx
      rw [Int.toNat_natCast]
      exact List.ext_getElem? fun k=>by
        rw [List.getElem?_set]
        split
        ·next q=>subst q;exact h.symm
        ·rfl
    rw [e]) (fun _ _ _ _ _ _ _=>trivial) (fun _ _=>by unfold V4;rw [Q8];rfl)
  rw [this]
  have key: ∀(l:List Phase) (i:Nat),Tl (fun _ (_:Unit) (_:Phase)=>(.inl ():Sum Unit Signal)) (fun _=>s) i () l=s:=by
    intro l
    induction l with
    |nil=>intro i;rfl
    |cons a r ih=>intro i;exact ih (i+1)
  rw [key];rfl
def Xu (e:Edit)(l:Lane):Edit:=Edit.mk e.Kind e.Table e.At l e.Zone_ e.Signal_ e.Work_
def AT (e:Edit)(z:Zone):Edit:=Edit.mk e.Kind e.Table e.At e.Lane_ z e.Signal_ e.Work_
def DO (e:Edit)(s:Signal):Edit:=Edit.mk e.Kind e.Table e.At e.Lane_ e.Zone_ s e.Work_
def IU (e:Edit)(w:Work):Edit:=Edit.mk e.Kind e.Table e.At e.Lane_ e.Zone_ e.Signal_ w
noncomputable def Tp (a b:Map):List Edit:=X6 1 Xu a.Lanes b.Lanes++ (X6 2 AT a.Zones b.Zones++ (X6 3 DO a.Signals b.Signals++X6 4 IU a.Works b.Works))
theorem DP {a b:Map}(V:ValR a)(W:ValR b):(Tp a b).length≤5000:=by
  have:=Hd 1 Xu a.Lanes b.Lanes
  have:=Hd 2 AT a.Zones b.Zones
  have:=Hd 3 DO a.Signals b.Signals
  have:=Hd 4 IU a.Works b.Works
  have:=V.lanes
  have:=V.zones
  have:=V.signals
  have:=V.works
  have:=W.lanes
  have:=W.zones
  have:=W.signals
  have:=W.works
  unfold Tp
  simp only [lK]
  omega
theorem GA {l:List (List Edit)}(hl:l.length≤1000)(hs:l.flatten.length≤1000000):S8 l=some l.flatten:=by
  unfold S8
  rw [MU l (O8 l) (fun s i x h=>by
      unfold O8
      rw [T8 (H5 h),l7,D1 h];rfl) (fun s=>by unfold O8;rw [Q8];rfl) hl hs,lA,MW hs,lA,
   MV l (O7 l) (fun s i x h=>by
    unfold O7
    rw [T8 (H5 h),l7,D1 h];rfl) (fun s=>by unfold O7;rw [Q8];rfl) hl hs]
  rfl
noncomputable def Za (a b:Map):Patch×Int:=if Km a≠0 then (⟨0,[]⟩,Km a)else if Km b≠0 then (⟨0,[]⟩,Km b)else (⟨a.Version,Tp a b⟩,0)
theorem PQ {a b:Map}(A:BearM a)(B:BearM b):Jm a b=some (Za a b):=by
  unfold Jm Za
  rw [Nx A,Nx B,lA]
  by_cases q:Km a=0
  ·by_cases q2:Km b=0
   ·have V:=chkR_zero.1 q
    have W:=chkR_zero.1 q2
    have h1:=V.lanes
    have h2:=V.zones
    have h3:=V.signals
    have h4:=V.works
    have w1:=W.lanes
    have w2:=W.zones
    have w3:=W.signals
    have w4:=W.works
    rw [q,q2,bA (by simp),bA (by simp),show ((0:Int) !=0)=false from rfl]
    have e1:H4 1 a.Lanes b.Lanes=some (X6 1 Xu a.Lanes b.Lanes):=
      AR 1 Xu a.Lanes b.Lanes Cc Eu (fun x hx y hy=>DK (A.toBear.pts x hx).1 (A.toBear.pts x hx).2) (fun e y hy=>by unfold Eu;rw [FY (B.toBear.pts y hy).1 (B.toBear.pts y hy).2];rfl) (by omega) (by omega) _ _ _ (fun _=>rfl) (fun _=>rfl) (fun _=>rfl)
    have e2:J4 2 a.Zones b.Zones=some (X6 2 AT a.Zones b.Zones):=
      AR 2 AT a.Zones b.Zones Cd Ev (fun x hx y hy=>DL (A.toBearZ.parts x hx)) (fun e y hy=>by unfold Ev;rw [FZ (B.toBearZ.parts y hy)];rfl) (by omega) (by omega) _ _ _ (fun _=>rfl) (fun _=>rfl) (fun _=>rfl)
    have e3:I5 3 a.Signals b.Signals=some (X6 3 DO a.Signals b.Signals):=
      AR 3 DO a.Signals b.Signals Z0 Ew (fun x hx y hy=>Xs (A.toBearS.phases x hx).1 (A.toBearS.phases x hx).2) (fun e y hy=>by unfold Ew;rw [AS (B.toBearS.phases y hy).1 (B.toBearS.phases y hy).2];rfl) (by omega) (by omega) _ _ _ (fun _=>rfl) (fun _=>rfl) (fun _=>rfl)
    have e4:J5 4 a.Works b.Works=some (X6 4 IU a.Works b.Works):=
      AR 4 IU a.Works b.Works Ce Gm (fun x hx y hy=>DM) (fun e y hy=>rfl) (by omega) (by omega) _ _ _ (fun _=>rfl) (fun _=>rfl) (fun _=>rfl)
    have hlen:=DP V W
    have e: [X6 1 Xu a.Lanes b.Lanes,X6 2 AT a.Zones b.Zones,X6 3 DO a.Signals b.Signals,X6 4 IU a.Works b.Works].flatten=Tp a b:=by simp [Tp]
    show (H4 1 a.Lanes b.Lanes).bind _=_
    rw [e1,lA,e2,lA,e3,lA,e4,lA,GA (by simp) (by rw [e];omega),e];rfl
   ·rw [q,bA (by simp),l9 q2]
    show (thenS (cond (Km b !=0) _ _) _ _)=_
    rw [show (Km b !=0)=true by simpa using q2];rfl
  ·rw [l9 q,show (Km a !=0)=true by simpa using q];rfl
/-! ### The document -/
/-- One table of the document's Diff. -/
theorem AU {α:Type}{a b:Map}{t:Int}(put:Edit→α→Edit)(l l':List α)(hl:l.length≤1000)(hl':l'.length≤1000)(ht:decide (t≤4)=true)(r1:Ha a t=some (l.length:Int))(r2:Ha b t=some (l'.length:Int))
    (hs: ∀(i:Nat) x y,l[i]? =some x→l'[i]? =some y→Y7 a b t (i:Int)=some (eqB x y))
    (hp: ∀(k:Int) (i:Nat) y,l'[i]? =some y→Cz k t (i:Int) b=some (put (Af k t i) y)) (p:Patch) (hb:p.Edits.length≤100000):
    Dr a b (t,p)=some (.go (I8 (t+1),⟨p.Base,p.Edits++X6 t put l l'⟩)):=by
  have l1:=AP t put l l'
  have l2:=AQ t l l'
  have c1:=HC (F:=Bs a b (t,p) (l.length:Int) (l'.length:Int)) (fun i s=>(i,(⟨p.Base,s⟩:Patch))) (fun s=>⟨p.Base,s⟩) t put l l' 110000 (fun i x y s hx hy hn=>by
    unfold Bs
    dsimp only
    rw [TY (H5 hx) (H5 hy),l7,hs i x y hx hy,lA,hp 3 i y hy,lA,Fk (by simp;omega),J8 (H5 hx) (by omega)]
    cases eqB x y<;>rfl) (fun s=>by unfold Bs;dsimp only;rw [PO];rfl) p.Edits (by omega)
  have c2:=HD (F:=Br (t,p) (l'.length:Int)) (fun i s=>(i,(⟨p.Base,s⟩:Patch))) (fun s=>⟨p.Base,s⟩) t l l' 110000 (fun i s hi1 hi2 hn=>by
    unfold Br
    dsimp only
    rw [NE (by omega),l7,show Edit.mk 2 t (i:Int) (Lane.mk 0 (Curve.mk []) 0 0 []) (Zone.mk [] 0) (Signal.mk 0 []) (Work.mk 0 0 0 0 0 0)=Af 2 t i from rfl,Fk (by simp;omega),lA,P0 (by omega)]) (fun s=>by
    unfold Br
    dsimp only
    rw [l5 (by omega)];rfl) (p.Edits++Rp t put l l') (by rw [lK];omega)
  have c3:=HE (F:=Bq b (t,p) (l'.length:Int)) (fun i s=>(i,(⟨p.Base,s⟩:Patch))) (fun s=>⟨p.Base,s⟩) t put l l' 110000 (fun i y s hy hn=>by
    unfold Bq
    dsimp only
    rw [T8 (H5 hy),l7,hp 1 i y hy,lA,Fk (by simp;omega),lA,J8 (H5 hy) (by omega)]) (fun i s hi=>by
    unfold Bq
    dsimp only
    rw [l5 (by omega)];rfl) l.length (.inl rfl) (p.Edits++Rp t put l l'++Xt t l l') (by simp only [lK];omega)
  unfold Dr
  dsimp only
  rw [ht,l7,r1,lA,r2,lA,show loop (Bs a b (t,p) (l.length:Int) (l'.length:Int)) (0,p)=_ from c1,lA,P0 (by omega),show loop (Br (t,p) (l'.length:Int)) ((l.length:Int) - 1,(⟨p.Base,p.Edits++Rp t put l l'⟩:Patch))=_ from c2,lA,show loop (Bq b (t,p) (l'.length:Int)) ((l.length:Int),(⟨p.Base,p.Edits++Rp t put l l'++Xt t l l'⟩:Patch))=_ from c3]
  unfold X6
  simp only [lM];rfl
theorem NF {a b:Map}(A:BearM a)(B:BearM b):Jo a b=some (Za a b):=by
  unfold Jo Za
  rw [Nw A,Nw B,lA]
  by_cases q:Km a=0
  ·by_cases q2:Km b=0
   ·have V:=chkR_zero.1 q
    have W:=chkR_zero.1 q2
    have h1:=V.lanes
    have h2:=V.zones
    have h3:=V.signals
    have h4:=V.works
    have w1:=W.lanes
    have w2:=W.zones
    have w3:=W.signals
    have w4:=W.works
    have k1:=Hd 1 Xu a.Lanes b.Lanes
    have k2:=Hd 2 AT a.Zones b.Zones
    have k3:=Hd 3 DO a.Signals b.Signals
    rw [q,q2,bA (by simp),bA (by simp)]
    show (loop (Dr a b) (1,(Patch.mk a.Version []))).bind _=_
    have t1:=AU (a:=a) (b:=b) (t:=1) Xu a.Lanes b.Lanes (by omega) (by omega) rfl rfl rfl (fun i x y hx hy=>by
      unfold Y7
      rw [show ((1:Int)==1)=true from rfl,l7,D1 hx,D1 hy,lA,lA,NC (A.toBear.pts x (lF hx)).1 (A.toBear.pts x (lF hx)).2];rfl) (fun k i y hy=>by
      unfold Cz
      rw [show ((1:Int)==1)=true from rfl,l7,D1 hy,lA,FV (B.toBear.pts y (lF hy)).1 (B.toBear.pts y (lF hy)).2];rfl) ⟨a.Version,[]⟩ (by simp)
    have t2:=AU (a:=a) (b:=b) (t:=2) AT a.Zones b.Zones (by omega) (by omega) rfl rfl rfl (fun i x y hx hy=>by
      unfold Y7
      rw [show ((2:Int)==1)=false from rfl,show ((2:Int)==2)=true from rfl,l8,l7,D1 hx,D1 hy,lA,lA,ND (A.toBearZ.parts x (lF hx))];rfl) (fun k i y hy=>by
      unfold Cz
      rw [show ((2:Int)==1)=false from rfl,show ((2:Int)==2)=true from rfl,l8,l7,D1 hy,lA,FW (B.toBearZ.parts y (lF hy))];rfl) ⟨a.Version,[]++X6 1 Xu a.Lanes b.Lanes⟩ (by simp;omega)
    have t3:=AU (a:=a) (b:=b) (t:=3) DO a.Signals b.Signals (by omega) (by omega) rfl rfl rfl (fun i x y hx hy=>by
      unfold Y7
      rw [show ((3:Int)==1)=false from rfl,show ((3:Int)==2)=false from rfl,show ((3:Int)==3)=true from rfl,l8,l8,l7,D1 hx,D1 hy,lA,lA,FX (A.toBearS.phases x (lF hx)).1 (A.toBearS.phases x (lF hx)).2];rfl) (fun k i y hy=>by
      unfold Cz
      rw [show ((3:Int)==1)=false from rfl,show ((3:Int)==2)=false from rfl,show ((3:Int)==3)=true from rfl,l8,l8,l7,D1 hy,lA,AJ (B.toBearS.phases y (lF hy)).1 (B.toBearS.phases y (lF hy)).2];rfl) ⟨a.Version,[]++X6 1 Xu a.Lanes b.Lanes++X6 2 AT a.Zones b.Zones⟩ (by simp only [lK,lL];omega)
    have t4:=AU (a:=a) (b:=b) (t:=4) IU a.Works b.Works (by omega) (by omega) rfl rfl rfl (fun i x y hx hy=>by
      unfold Y7
      rw [show ((4:Int)==1)=false from rfl,show ((4:Int)==2)=false from rfl,show ((4:Int)==3)=false from rfl,l8,l8,l8,D1 hx,D1 hy,lA,lA,MZ]) (fun k i y hy=>by
      unfold Cz
      rw [show ((4:Int)==1)=false from rfl,show ((4:Int)==2)=false from rfl,show ((4:Int)==3)=false from rfl,l8,l8,l8,D1 hy,lA];rfl) ⟨a.Version,[]++X6 1 Xu a.Lanes b.Lanes++X6 2 AT a.Zones b.Zones++X6 3 DO a.Signals b.Signals⟩ (by simp only [lK,lL];omega)
    rw [R7 t1,show I8 (1+1)=2 from rfl,R7 t2,show I8 (2+1)=3 from rfl,R7 t3,show I8 (3+1)=4 from rfl,R7 t4,show I8 (4+1)=5 from rfl,I6 (t:=⟨a.Version,Tp a b⟩) (by
     unfold Tp
     simp only [lM];rfl)]
    rfl
   ·rw [q,bA (by simp),l9 q2]
    show (cond (Km b !=0) _ _)=_
    rw [show (Km b !=0)=true by simpa using q2];rfl
  ·rw [l9 q,show (Km a==0)=false by simpa using q,l8,lA,show (Km a !=0)=true by simpa using q];rfl
/-! ### What is handed out is the same as itself -/
structure EditOK (e:Edit):Prop where
  pts:e.Lane_.Curve_.Pts.length≤1000000
  next:e.Lane_.Next.length≤1000000
  parts:e.Zone_.Parts.length≤1000000
  phases:e.Signal_.Phases.length≤1000000
  greens: ∀p∈e.Signal_.Phases,p.Green.length≤1000000
theorem DQ (k t i:Int):EditOK (Af k t i):=⟨by simp [Af],by simp [Af],by simp [Af],by simp [Af],by simp [Af]⟩
theorem Zb {E:Type}{g:Nat→E}{lo:Nat}{x:E}: ∀{n:Nat},x∈Tn g lo n→∃i,x=g i
  |0,h=>by cases h
  |n+1,h=>by
   rcases lR.1 h with h|h
   ·exact ⟨_,h⟩
   ·exact Zb h
theorem Rs {α:Type}{t:Int}{put:Edit→α→Edit}{a b:List α}(h: ∀y∈b,∀k t i,EditOK (put (Af k t i) y)): ∀e∈X6 t put a b,EditOK e:=by
  intro e he
  rcases lQ.1 he with he|he
  ·obtain ⟨j,p,h1,h2⟩:=pickI_mem.1 he
   obtain ⟨_,hb⟩:=Up h1
   cases q:eqB p.1 p.2<;>rw [q]at h2
   ·cases h2;exact h _ (lF hb) _ _ _
   ·cases h2
  ·rcases lQ.1 he with he|he
   ·obtain ⟨i,rfl⟩:=Zb he;exact DQ _ _ _
   ·obtain ⟨j,y,h1,h2⟩:=pickI_mem.1 he
    cases h2
    exact h y (List.mem_of_mem_drop (lF h1)) _ _ _
theorem PR {a b:Map}(B:BearM b): ∀e∈Tp a b,EditOK e:=by
  intro e he
  have k (k t i:Int):=DQ k t i
  rcases lQ.1 he with he|he
  ·exact Rs (fun y hy k' t i=>⟨(B.toBear.pts y hy).1,(B.toBear.pts y hy).2,(k k' t i).parts,(k k' t i).phases,(k k' t i).greens⟩) e he
  ·rcases lQ.1 he with he|he
   ·exact Rs (fun y hy k' t i=>⟨(k k' t i).pts,(k k' t i).next,B.toBearZ.parts y hy,(k k' t i).phases,(k k' t i).greens⟩) e he
   ·rcases lQ.1 he with he|he
    ·exact Rs (fun y hy k' t i=>⟨(k k' t i).pts,(k k' t i).next,(k k' t i).parts,(B.toBearS.phases y hy).1,(B.toBearS.phases y hy).2⟩) e he
    ·exact Rs (fun y hy k' t i=>⟨(k k' t i).pts,(k k' t i).next,(k k' t i).parts,(k k' t i).phases,(k k' t i).greens⟩) e he
theorem Ww {p:Patch}(hl:p.Edits.length≤1000000)(h: ∀e∈p.Edits,EditOK e):Dm p p=some true:=by
  unfold Dm
  rw [Kx p.Edits (fun _=>false) false (fun i e he=>by
   have hi:=H5 he
   have O:=h e (lF he)
   unfold Ad
   rw [T8 hi,D1 he,J8 hi (by omega)]
   simp [Xq O.pts O.next,Xr O.parts,Uj O.phases O.greens]) (by unfold Ad;rw [Q8];rfl)]
  simp [thenS]
theorem Ma (m n:Map):Ez m n=some true:=by
  unfold Ez
  rw [DI,DI,lA,MR]
  cases h:Su m
  ·rfl
  ·cases h2:Su n
   ·rfl
   ·have A:=Wt h
    have B:=Wt h2
    simp only [bE,bF,l7,lA,Bool.or_self,l8,PQ A B,NF A B,beq_self_eq_true]
    rw [Ww]
    ·rfl
    ·unfold Za
     split
     ·simp
     ·split
      ·simp
      ·next q q2=>have:=DP (a:=m) (b:=n) (chkR_zero.1 (by simpa using q)) (chkR_zero.1 (by simpa using q2));dsimp only;omega
    ·unfold Za
     split
     ·simp
     ·split
      ·simp
      ·exact PR B
end Go.Abs.Roadsz
