/-
  Plain facts on the functions: what they compute, and that the law holds of it.
-/
import Derived.Test.YtimbepcdlehjjaaGreatFns3
set_option maxRecDepth 100000
set_option synthInstance.maxHeartbeats 0
set_option synthInstance.maxSize 100000
set_option linter.unusedVariables false
namespace Go.Abs.Roadsz
open Go Go.Abs
instance (a)(b)(c)(d):Le (@Jn Bc a b c d) (Jn a b c d):=by unfold Jn;infer_instance
instance:Le (@Jb Bc) (Jb):=by unfold Jb;infer_instance
instance (a):Le (@Ec Bc a) (Ec a):=by unfold Ec;infer_instance
instance curve_root_le (a):Le (@Be Bc a) (Be a):=by unfold Be;infer_instance
instance (a)(b):Le (@R0 Bc a b) (R0 a b):=by unfold R0;infer_instance
instance (a):Le (@Aq Bc a) (Aq a):=by unfold Aq;infer_instance
instance (a)(b)(c):Le (@V7 Bc a b c) (V7 a b c):=by unfold V7;infer_instance
instance (a)(b):Le (@M2 Bc a b) (M2 a b):=by unfold M2;infer_instance
instance (a):Le (@P1 Bc a) (P1 a):=by unfold P1;infer_instance
instance (a)(b):Le (@K8 Bc a b) (K8 a b):=by unfold K8;infer_instance
instance (a):Le (@O4 Bc a) (O4 a):=by unfold O4;infer_instance
instance (a):Le (@E0 Bc a) (E0 a):=by unfold E0;infer_instance
instance (a):Le (@C7 Bc a) (C7 a):=by unfold C7;infer_instance
instance (a)(b):Le (@N5 Bc a b) (N5 a b):=by unfold N5;infer_instance
instance (a)(b)(c):Le (@C5 Bc a b c) (C5 a b c):=by unfold C5;infer_instance
instance (a)(b):Le (@D6 Bc a b) (D6 a b):=by unfold D6;infer_instance
instance (a)(b):Le (@C6 Bc a b) (C6 a b):=by unfold C6;infer_instance
instance (a)(b):Le (@K0 Bc a b) (K0 a b):=by unfold K0;infer_instance
instance (a):Le (@N3 Bc a) (N3 a):=by unfold N3;infer_instance
instance piecesGo_le (pts:List Spot): ∀(n i:Nat) (s:Int),Le (@Dc Bc pts n i s) (Dc pts n i s)
  |0,i,s=>Le.refl _
  |n+1,i,s=>by
   unfold Dc
   have:=fun i s=>piecesGo_le pts n i s
   infer_instance -- curve_root_le
instance (a):Le (@Kl Bc a) (Kl a):=by unfold Kl;infer_instance
instance (a):Le (@Ar Bc a) (Ar a):=by unfold Ar;infer_instance
instance (a):Le (@As Bc a) (As a):=by unfold As;infer_instance
instance (a)(b):Le (@T0 Bc a b) (T0 a b):=by unfold T0;infer_instance
instance (a)(b)(c):Le (@M3 Bc a b c) (M3 a b c):=by unfold M3;infer_instance
instance (a)(b):Le (@M4 Bc a b) (M4 a b):=by unfold M4;infer_instance
instance (a):Le (@P2 Bc a) (P2 a):=by unfold P2;infer_instance
instance (a)(b):Le (@M5 Bc a b) (M5 a b):=by unfold M5;infer_instance
instance (a):Le (@P3 Bc a) (P3 a):=by unfold P3;infer_instance
instance (a)(b):Le (@N6 Bc a b) (N6 a b):=by unfold N6;infer_instance
instance (a)(b):Le (@J7 Bc a b) (J7 a b):=by unfold J7;infer_instance
instance (a):Le (@Q3 Bc a) (Q3 a):=by unfold Q3;infer_instance
instance (a)(b):Le (@R6 Bc a b) (R6 a b):=by unfold R6;infer_instance
instance (a)(b):Le (@J4 Bc a b) (J4 a b):=by unfold J4;infer_instance
instance (a)(b)(c):Le (@Af Bc a b c) (Af a b c):=by unfold Af;infer_instance
instance (a)(b):Le (@Av Bc a b) (Av a b):=by unfold Av;infer_instance
instance (a)(b)(c):Le (@T8 Bc a b c) (T8 a b c):=by unfold T8;infer_instance
instance (a)(b):Le (@Y5 Bc a b) (Y5 a b):=by unfold Y5;infer_instance
instance (a)(b)(c):Le (@Ag Bc a b c) (Ag a b c):=by unfold Ag;infer_instance
instance (a)(b):Le (@El Bc a b) (El a b):=by unfold El;infer_instance
instance (a)(b)(c):Le (@Fu Bc a b c) (Fu a b c):=by unfold Fu;infer_instance
instance (a)(b):Le (@G8 Bc a b) (G8 a b):=by unfold G8;infer_instance
instance (a)(b):Le (@Cm Bc a b) (Cm a b):=by unfold Cm;infer_instance
instance (a)(b)(c)(d):Le (@Ah Bc a b c d) (Ah a b c d):=by unfold Ah;infer_instance
instance (a)(b)(c):Le (@Cn Bc a b c) (Cn a b c):=by unfold Cn;infer_instance
instance (a)(b):Le (@Bs Bc a b) (Bs a b):=by unfold Bs;infer_instance
instance (a):Le (@Fv Bc a) (Fv a):=by unfold Fv;infer_instance
instance (a)(b)(c):Le (@G3 Bc a b c) (G3 a b c):=by unfold G3;infer_instance
instance (a)(b)(c):Le (@F7 Bc a b c) (F7 a b c):=by unfold F7;infer_instance
instance (a)(b)(c):Le (@Ce Bc a b c) (Ce a b c):=by unfold Ce;infer_instance
instance (a)(b)(c):Le (@R7 Bc a b c) (R7 a b c):=by unfold R7;infer_instance
instance (a)(b)(c)(d):Le (@F4 Bc a b c d) (F4 a b c d):=by unfold F4;infer_instance
instance (a)(b)(c):Le (@G2 Bc a b c) (G2 a b c):=by unfold G2;infer_instance
instance (a)(b)(c):Le (@F5 Bc a b c) (F5 a b c):=by unfold F5;infer_instance
instance (a)(b)(c)(d):Le (@R8 Bc a b c d) (R8 a b c d):=by unfold R8;infer_instance
instance (a)(b)(c)(d)(e):Le (@F1 Bc a b c d e) (F1 a b c d e):=by unfold F1;infer_instance
instance (a)(b)(c)(d):Le (@F9 Bc a b c d) (F9 a b c d):=by unfold F9;infer_instance
instance (a)(b)(c)(d):Le (@F2 Bc a b c d) (F2 a b c d):=by unfold F2;infer_instance
instance (a)(b):Le (@Ai Bc a b) (Ai a b):=by unfold Ai;infer_instance
instance (a):Le (@Em Bc a) (Em a):=by unfold Em;infer_instance
instance (a)(b)(c)(d):Le (@Aj Bc a b c d) (Aj a b c d):=by unfold Aj;infer_instance
instance (a)(b):Le (@Ak Bc a b) (Ak a b):=by unfold Ak;infer_instance
instance (a):Le (@En Bc a) (En a):=by unfold En;infer_instance
instance (a)(b)(c):Le (@Y6 Bc a b c) (Y6 a b c):=by unfold Y6;infer_instance
instance (a)(b):Le (@Y2 Bc a b) (Y2 a b):=by unfold Y2;infer_instance
instance (a)(b)(c):Le (@Dl Bc a b c) (Dl a b c):=by unfold Dl;infer_instance
instance (a)(b)(c)(d)(e)(f):Le (@L6 Bc a b c d e f) (L6 a b c d e f):=by unfold L6;infer_instance
instance (a)(b)(c)(d)(e):Le (@L7 Bc a b c d e) (L7 a b c d e):=by unfold L7;infer_instance
instance (a)(b)(c):Le (@L8 Bc a b c) (L8 a b c):=by unfold L8;infer_instance
instance (a)(b):Le (@O3 Bc a b) (O3 a b):=by unfold O3;infer_instance
instance (a):Le (@Fw Bc a) (Fw a):=by unfold Fw;infer_instance
instance (a)(b)(c):Le (@R9 Bc a b c) (R9 a b c):=by unfold R9;infer_instance
instance (a)(b)(c)(d):Le (@E8 Bc a b c d) (E8 a b c d):=by unfold E8;infer_instance
instance (a)(b)(c):Le (@F3 Bc a b c) (F3 a b c):=by unfold F3;infer_instance
instance (a)(b)(c):Le (@E9 Bc a b c) (E9 a b c):=by unfold E9;infer_instance
instance (a)(b)(c)(d):Le (@U6 Bc a b c d) (U6 a b c d):=by unfold U6;infer_instance
instance (a)(b)(c)(d)(e)(f)(g):Le (@K2 Bc a b c d e f g) (K2 a b c d e f g):=by unfold K2;infer_instance
instance (a)(b)(c)(d)(e)(f):Le (@K3 Bc a b c d e f) (K3 a b c d e f):=by unfold K3;infer_instance
instance (a)(b)(c)(d):Le (@K4 Bc a b c d) (K4 a b c d):=by unfold K4;infer_instance
instance (a)(b)(c):Le (@M8 Bc a b c) (M8 a b c):=by unfold M8;infer_instance
instance (a):Le (@Eo Bc a) (Eo a):=by unfold Eo;infer_instance
instance (a):Le (@Jc Bc a) (Jc a):=by unfold Jc;infer_instance
instance (a)(b):Le (@Jt Bc a b) (Jt a b):=by unfold Jt;infer_instance
instance (a)(b):Le (@Ep Bc a b) (Ep a b):=by unfold Ep;infer_instance
instance (a)(b)(c)(d):Le (@Fx Bc a b c d) (Fx a b c d):=by unfold Fx;infer_instance
instance law03_awake_le:Le (@Ax Bc) (Ax):=by unfold Ax;infer_instance
theorem Dh (n:Int): ∃y,Be n=some (y,y*y==n)∧0≤y∧y≤67108864∧(∀m,0≤m→m<y→m*m<n)∧(y=67108864∨n≤y*y):=by
  have key:=CP (f:=Fa n) (fun x=>0≤x.1∧x.1≤x.2∧x.2≤67108864∧(∀m,0≤m→m<x.1→m*m<n)∧(x.2=67108864∨n≤x.2*x.2)) (fun x=>(x.2 - x.1).toNat)
    (fun y=>0≤y∧y≤67108864∧(∀m,0≤m→m<y→m*m<n)∧(y=67108864∨n≤y*y)) (by
      rintro ⟨lo,hi⟩ ⟨h1,h2,h3,h4,h5⟩
      dsimp only at h1 h2 h3 h4 h5
      unfold Fa
      dsimp only
      by_cases hlt:lo<hi
      ·have e1:J3 (lo+hi)=lo+hi:=M9 (by omega)
       have e2:J3 ((lo+hi).tdiv 2)=(lo+hi) / 2:=by rw [Int.tdiv_eq_ediv_of_nonneg (by omega)];exact M9 (by omega)
       have hm:lo≤(lo+hi) / 2∧(lo+hi) / 2<hi:=by omega
       generalize hmid:(lo+hi) / 2=mid at*
       have hmm:mid*mid≤67108864*67108864:=GW (by omega) (by omega)
       have hmm0:=Iy mid
       have e3:J3 (mid*mid)=mid*mid:=M9 (by omega)
       have e4:J3 (mid+1)=mid+1:=M9 (by omega)
       simp only [e1,e2,e3,e4,hlt,decide_true,l6]
       by_cases hc:mid*mid<n
       ·simp only [hc,decide_true,l6]
        refine ⟨_,rfl,⟨by omega,by omega,h3,fun m hm0 hm1=> ?_,h5⟩,by dsimp only;omega⟩
        rcases Int.lt_or_le m mid with q|q
        ·have:=Int.mul_le_mul (show m≤mid by omega) (show m≤mid by omega) hm0 (by omega);omega
        ·have:m=mid:=by dsimp only at hm1;omega
         subst this;exact hc
       ·simp only [hc,decide_false,l7]
        exact ⟨_,rfl,⟨h1,by dsimp only;omega,by dsimp only;omega,h4, .inr (by dsimp only;omega)⟩,by dsimp only;omega⟩
      ·simp only [hlt,decide_false,l7]
       obtain rfl:lo=hi:=by omega
       exact ⟨_,rfl,h1,h3,h4,h5⟩) (0,67108864) ⟨by decide,by decide,by decide,fun m h1 h2=>by dsimp only at h2;omega, .inl rfl⟩
  obtain ⟨y,hy,h1,h2,h3,h4⟩:=key
  refine ⟨y,?_,h1,h2,h3,h4⟩
  have hmm:y*y≤67108864*67108864:=GW (by omega) (by omega)
  have hmm0:=Iy y
  unfold Be
  rw [hy,lA,M9 (by omega)]
/-- The least number whose square is not less. -/
noncomputable def rt (n:Int):Int:=(Dh n).choose
theorem Pq (n:Int):Be n=some (rt n,rt n*rt n==n):=(Dh n).choose_spec.1
theorem Th (n:Int):0≤rt n:=(Dh n).choose_spec.2.1
theorem RC (n m:Int)(h1:0≤m)(h2:m<rt n):m*m<n:=(Dh n).choose_spec.2.2.2.1 m h1 h2
theorem RD (n:Int):rt n=67108864∨n≤rt n*rt n:=(Dh n).choose_spec.2.2.2.2
theorem MH {l:Int}(h0:0≤l)(h1:l≤67108864):rt (l*l)=l:=by
  rcases Int.lt_trichotomy (rt (l*l)) l with q|q|q
  ·rcases RD (l*l)with h|h
   ·omega
   ·have h2:=Th (l*l)
    have:=Int.mul_lt_mul' (show rt (l*l)≤l by omega) q h2 (by omega);omega
  ·exact q
  ·have:=RC (l*l) l h0 q;omega
theorem Us (n:Int)(h0:0≤n)(h1:n<18014398509481984): ∃r,Ee n=some r∧0≤r∧r<134217728∧r*r≤n∧n< (r+1)* (r+1):=by
  have key:=CP (f:=Fg n) (fun x=>0≤x.1∧x.1*x.1≤n∧((∃k:Nat,k≤26∧x.2=2^k∧x.1+2*2^k≤134217728∧n< (x.1+2*2^k)* (x.1+2*2^k))∨(x.2=0∧x.1<134217728∧n< (x.1+1)* (x.1+1)))) (fun x=>x.2.toNat)
    (fun r=>0≤r∧r<134217728∧r*r≤n∧n< (r+1)* (r+1)) (by
      rintro ⟨r,bit⟩ ⟨q1,q2,q3⟩
      dsimp only at q1 q2 q3
      unfold Fg
      dsimp only
      rcases q3 with ⟨k,hk,rfl,q4,q5⟩|⟨rfl,q4,q5⟩
      ·have hp:(0:Int)<2^k:=Int.pow_pos (by decide)
       generalize hb:(2:Int)^k=b at*
       have e1:J3 (r+b)=r+b:=M9 (by omega)
       have hmm:(r+b)* (r+b)≤134217728*134217728:=GW (by omega) (by omega)
       have hmm0:=Iy (r+b)
       have e2:J3 ((r+b)* (r+b))=(r+b)* (r+b):=M9 (by omega)
       have e3:J3 (b.tdiv 2)=b / 2:=by rw [Int.tdiv_eq_ediv_of_nonneg (by omega)];exact M9 (by omega)
       have hb0:b>0:=by omega
       simp only [e1,e2,e3,hb0,decide_true,l6]
       have hnext: ∀r',0≤r'→r'*r'≤n→r'+b≤134217728→n< (r'+b)* (r'+b)→(∃j:Nat,j≤26∧b / 2=2^j∧r'+2*2^j≤134217728∧n< (r'+2*2^j)* (r'+2*2^j))∨(b / 2=0∧r'<134217728∧n< (r'+1)* (r'+1)):=by
         intro r' a1 a2 a3 a4
         cases k with
         |zero=>
          have:b=1:=by rw [← hb];rfl
          subst this
          exact .inr ⟨by decide,by omega,a4⟩
         |succ j=>
          have hj:b=2*2^j:=by rw [← hb,Int.pow_succ];omega
          refine .inl ⟨j,by omega,by omega,by omega,by rw [← hj];exact a4⟩
       by_cases hc:(r+b)* (r+b)≤n
       ·simp only [hc,decide_true,l6]
        refine ⟨_,rfl,⟨by dsimp only;omega,hc,hnext (r+b) (by omega) hc (by omega) (by rw [show r+b+b=r+2*b by omega];exact q5)⟩,by dsimp only;omega⟩
       ·simp only [hc,decide_false,l7]
        exact ⟨_,rfl,⟨q1,q2,hnext r q1 q2 (by omega) (by omega)⟩,by dsimp only;omega⟩
      ·simp only [show ¬(0:Int)>0 by decide,decide_false,l7]
       exact ⟨_,rfl,q1,q4,q2,q5⟩) (0,67108864) ⟨by decide,by dsimp only;omega, .inl ⟨26,by decide,by decide,by decide,by dsimp only;omega⟩⟩
  obtain ⟨r,hr,a⟩:=key
  exact ⟨r,by unfold Ee;rw [hr];rfl,a⟩
theorem Yl {n:Int}(h0:0≤n)(h1:n≤4503599627370496): ∃r,Ee n=some r∧0≤r∧r<134217728∧(r*r=n↔rt n*rt n=n)∧(r*r=n→r=rt n):=by
  obtain ⟨r,hr,a1,a2,a3,a4⟩:=Us n h0 (by omega)
  have hr26:r≤67108864:=by
    rcases Int.lt_or_le r 67108865 with q|q
    ·omega
    ·have:=Int.mul_le_mul q q (by decide) (by omega);omega
  refine ⟨r,hr,a1,a2,⟨fun h=> ?_,fun h=> ?_⟩,fun h=> ?_⟩
  ·rw [← h,MH a1 hr26]
  ·rcases Int.lt_trichotomy r (rt n)with q|q|q
   ·have:=Int.mul_le_mul (show r+1≤rt n by omega) (show r+1≤rt n by omega) (by omega) (Th n);omega
   ·rw [q];exact h
   ·have h2:=Th n
    have:=Int.mul_lt_mul' (show rt n≤r by omega) q h2 (by omega);omega
  ·rw [← h,MH a1 hr26]
def Me (p:Spot):Bool:=decide (-16777216≤p.X)&&decide (p.X≤16777216)&&decide (-16777216≤p.Y)&&decide (p.Y≤16777216)
theorem okS_iff {p:Spot}:Me p=true↔ -16777216≤p.X∧p.X≤16777216∧ -16777216≤p.Y∧p.Y≤16777216:=by simp [Me,and_assoc]
theorem II (p:Spot):((decide ((BM false p.X p.Y)< (-16777216)))||(decide ((BM true p.X p.Y)>16777216)))= !Me p:=by
  rw [GX,OO]
  cases h:Me p with
  |true=>have:=okS_iff.1 h;simp;omega
  |false=>
   have: ¬(-16777216≤p.X∧p.X≤16777216∧ -16777216≤p.Y∧p.Y≤16777216):=fun q=>by rw [okS_iff.2 q]at h;cases h
   simp;omega
theorem Ym (l:List Spot)(hl:l.length≤1000000): ∀(r:List Spot) (i:Nat),l.drop i=r→loop (Bd l) (i:Int)=some (if r.all Me then .inl ()else .inr false):=by
  intro r
  induction r with
  |nil=>
   intro i hi
   have:=Ap hi
   refine J2 ?_
   unfold Bd
   simp only [show ¬(i:Int)<l.length by omega,decide_false,l7,List.all_nil,if_true]
  |cons p r ih=>
   intro i hi
   have hlt:=X0 hi
   have hstep:Bd l (i:Int)=if Me p then some (.go ((i+1:Nat):Int))else some (.out (.inr false)):=by
     unfold Bd
     simp only [show (i:Int)<l.length by omega,decide_true,l6,W9 hi,lA,II]
     cases h:Me p with
     |true=>simp only [bD,l7,if_true];rw [M9 (by omega)];rfl
     |false=>simp
   cases h:Me p with
   |true=>
    rw [h,l8 rfl]at hstep
    rw [U2 hstep,ih (i+1) (Q5 hi)]
    simp [h]
   |false=>
    rw [h]at hstep
    rw [J2 hstep]
    simp [h]
theorem Yn (l:List Spot)(hl:l.length≤1000000):Ec l=some (l.all Me):=by
  unfold Ec
  have:=Ym l hl l 0 (by simp)
  rw [show ((0:Nat):Int)=0 from rfl]at this
  rw [this]
  cases l.all Me<;>rfl
theorem Xg (p:Spot):If p=some (Me p):=by
  unfold If Me;rfl
def L9 (p q:Spot):CurveVector:=⟨q.X - p.X,q.Y - p.Y⟩
def I0 (v w:CurveVector):Int:=v.x*w.x+v.y*w.y
/-- A vector between valid spots. -/
def IP (v:CurveVector):Prop:= -33554432≤v.x∧v.x≤33554432∧ -33554432≤v.y∧v.y≤33554432
theorem Rw {p q:Spot}(hp:Me p=true)(hq:Me q=true):IP (L9 p q):=by
  have:=okS_iff.1 hp;have:=okS_iff.1 hq
  unfold IP L9;dsimp only;omega
theorem Pr {p q:Spot}(hp:Me p=true)(hq:Me q=true):Hg p q=some (L9 p q):=by
  have:=okS_iff.1 hp;have:=okS_iff.1 hq
  unfold Hg L9
  rw [M9 (by omega),M9 (by omega)]
theorem FT {v w:CurveVector}(hv:IP v)(hw:IP w): -2251799813685248≤I0 v w∧I0 v w≤2251799813685248∧(-1125899906842624≤v.x*w.x∧v.x*w.x≤1125899906842624)∧ -1125899906842624≤v.y*w.y∧v.y*w.y≤1125899906842624:=by
  obtain ⟨a1,a2,a3,a4⟩:=hv
  obtain ⟨b1,b2,b3,b4⟩:=hw
  have h1:=LB ⟨a1,a2⟩ ⟨b1,b2⟩
  have h2:=LB ⟨a3,a4⟩ ⟨b3,b4⟩
  unfold I0
  omega
theorem Mf {v w:CurveVector}(hv:IP v)(hw:IP w):U5 v w=some (I0 v w):=by
  have h:=FT hv hw
  unfold U5
  rw [M9 (n:=v.x*w.x) (by omega),M9 (n:=v.y*w.y) (by omega),M9 (by unfold I0 at h;omega)]
  rfl
theorem FU (v:CurveVector):0≤I0 v v:=by have:=Iy v.x;have:=Iy v.y;unfold I0;omega
def vs (v:CurveVector):Spot:=⟨v.x,v.y⟩
theorem Jz {p q:Spot}(hp:Me p=true)(hq:Me q=true):Ed q p=some (vs (L9 p q)):=by
  have:=okS_iff.1 hp;have:=okS_iff.1 hq
  unfold Ed L9 vs
  rw [M9 (by omega),M9 (by omega)]
theorem Mg {v w:CurveVector}(hv:IP v)(hw:IP w):Fz (vs v) (vs w)=some (I0 v w):=by
  have h:=FT hv hw
  unfold Fz vs
  dsimp only
  rw [M9 (n:=v.x*w.x) (by omega),M9 (n:=v.y*w.y) (by omega),M9 (by unfold I0 at h;omega)]
  rfl
/-- The error of a chain of points, from a piece on; the piece ahead of it. -/
noncomputable def DH:Option CurveVector→List Spot→Int
  |last,p::q::r=>
   if rt (I0 (L9 p q) (L9 p q))*rt (I0 (L9 p q) (L9 p q))≠I0 (L9 p q) (L9 p q)then 3
   else if rt (I0 (L9 p q) (L9 p q))<1000∨rt (I0 (L9 p q) (L9 p q))>1048576 then 2
   else match last with
     |some u=>if I0 u (L9 p q)≤0 then 12 else DH (some (L9 p q)) (q::r)
     |none=>DH (some (L9 p q)) (q::r)
  |_,_=>0
theorem Rx (last:Option CurveVector)(p q:Spot)(r:List Spot):DH last (p::q::r)=
    if rt (I0 (L9 p q) (L9 p q))*rt (I0 (L9 p q) (L9 p q))≠I0 (L9 p q) (L9 p q)then 3
    else if rt (I0 (L9 p q) (L9 p q))<1000∨rt (I0 (L9 p q) (L9 p q))>1048576 then 2
    else match last with
      |some u=>if I0 u (L9 p q)≤0 then 12 else DH (some (L9 p q)) (q::r)
      |none=>DH (some (L9 p q)) (q::r):=by
  conv=>lhs;unfold DH
noncomputable def X7 (l:List Spot):Int:=if l.length<2 then 6 else if l.length>16 then 5 else if l.all Me then DH none l else 2
theorem Xh (c:Curve)(hl:c.Pts.length≤1000000)(hok:c.Pts.all Me=true): ∀(r:List Spot) (p:Spot) (i:Nat) (last:CurveVector),c.Pts.drop i=p::r→IP last→
    loop (R0 c) ((i:Int),last)=some (if DH (if i=0 then none else some last) (p::r)=0 then .inl ()else .inr (DH (if i=0 then none else some last) (p::r))):=by
  intro r
  induction r with
  |nil=>
   intro p i last hi hlast
   have hlt:=X0 hi
   have:=Ap (Q5 hi)
   refine J2 ?_
   unfold R0
   dsimp only
   rw [M9 (n:=(c.Pts.length:Int) - 1) (by omega)]
   simp only [show ¬(i:Int)< (c.Pts.length:Int) - 1 by omega,decide_false,l7,DH,if_true]
  |cons q r ih=>
   intro p i last hi hlast
   have hlt:=X0 hi
   have hi1:=Q5 hi
   have hlt1:=X0 hi1
   have hp:Me p=true:=lT.1 hok p (List.mem_of_mem_drop (i:=i) (by rw [hi];simp))
   have hq:Me q=true:=lT.1 hok q (List.mem_of_mem_drop (i:=i) (by rw [hi];simp))
   have hv:=Rw hp hq
   have hg1:E6 c.Pts ((i:Int)+1)=some q:=by have:=W9 hi1;simpa using this
   have hstep:R0 c ((i:Int),last)=
    if rt (I0 (L9 p q) (L9 p q))*rt (I0 (L9 p q) (L9 p q))≠I0 (L9 p q) (L9 p q)then some (.out (.inr 3))
    else if rt (I0 (L9 p q) (L9 p q))<1000∨rt (I0 (L9 p q) (L9 p q))>1048576 then some (.out (.inr 2))
    else if i≠0∧I0 last (L9 p q)≤0 then some (.out (.inr 12))else some (.go (((i+1:Nat):Int),L9 p q)):=by
     unfold R0
     dsimp only
     rw [M9 (n:=(c.Pts.length:Int) - 1) (by omega),M9 (n:=(i:Int)+1) (by omega)]
     simp only [show (i:Int)< (c.Pts.length:Int) - 1 by omega,decide_true,l6,W9 hi,hg1,lA,Pr hp hq,Mf hv hv,Pq]
     by_cases h1:rt (I0 (L9 p q) (L9 p q))*rt (I0 (L9 p q) (L9 p q))=I0 (L9 p q) (L9 p q)
     ·simp only [h1,beq_self_eq_true,bD,l7,ne_eq,not_true_eq_false,if_false]
      by_cases h2:rt (I0 (L9 p q) (L9 p q))<1000∨rt (I0 (L9 p q) (L9 p q))>1048576
      ·rw [l8 h2]
       have:(decide (rt (I0 (L9 p q) (L9 p q))<1000)||decide (rt (I0 (L9 p q) (L9 p q))>1048576))=true:=by simpa using h2
       rw [this];rfl
      ·rw [l9 h2]
       have:(decide (rt (I0 (L9 p q) (L9 p q))<1000)||decide (rt (I0 (L9 p q) (L9 p q))>1048576))=false:=by simpa using h2
       rw [this]
       simp only [l7]
       by_cases h3:i=0
       ·subst h3
        simp only [Int.natCast_zero,gt_iff_lt,Int.lt_irrefl,decide_false,l7,Bool.false_and,lA,not_true_eq_false,false_and,if_false]
        rfl
       ·have h4:(i:Int)>0:=by omega
        simp only [h4,decide_true,l6,Mf hlast hv,lA,bA,h3,not_false_eq_true,true_and]
        by_cases h5:I0 last (L9 p q)≤0<;>simp [h5]
     ·have:(rt (I0 (L9 p q) (L9 p q))*rt (I0 (L9 p q) (L9 p q))==I0 (L9 p q) (L9 p q))=false:=by simpa using h1
      simp only [this,bE,l6,ne_eq,h1,not_false_eq_true,if_true]
   rw [Rx]
   by_cases h1:rt (I0 (L9 p q) (L9 p q))*rt (I0 (L9 p q) (L9 p q))≠I0 (L9 p q) (L9 p q)
   ·rw [l8 h1]at hstep
    rw [J2 hstep,l8 h1];rfl
   ·rw [l9 h1]at hstep ⊢
    by_cases h2:rt (I0 (L9 p q) (L9 p q))<1000∨rt (I0 (L9 p q) (L9 p q))>1048576
    ·rw [l8 h2]at hstep
     rw [J2 hstep,l8 h2];rfl
    ·rw [l9 h2]at hstep ⊢
     by_cases h3:i=0
     ·subst h3
      rw [l9 (by simp)]at hstep
      rw [U2 hstep,ih q (0+1) (L9 p q) hi1 hv]
      simp
     ·by_cases h5:I0 last (L9 p q)≤0
      ·rw [l8 ⟨h3,h5⟩]at hstep
       rw [J2 hstep]
       simp [h3,h5]
      ·rw [l9 (fun h=>h5 h.2)]at hstep
       rw [U2 hstep,ih q (i+1) (L9 p q) hi1 hv]
       simp [h3,h5]
theorem Oe (c:Curve)(hl:c.Pts.length≤1000000):Aq c=some (X7 c.Pts):=by
  unfold Aq X7
  by_cases h1:c.Pts.length<2
  ·rw [l8 h1,show decide ((c.Pts.length:Int)<2)=true by simp;omega];rfl
  ·rw [l9 h1,show decide ((c.Pts.length:Int)<2)=false by simp;omega]
   simp only [l7]
   by_cases h2:c.Pts.length>16
   ·rw [l8 h2,show decide ((c.Pts.length:Int)>16)=true by simp;omega];rfl
   ·rw [l9 h2,show decide ((c.Pts.length:Int)>16)=false by simp;omega]
    simp only [l7,Yn c.Pts hl,lA]
    cases h3:c.Pts.all Me with
    |false=>rfl
    |true=>
     simp only [bD,l7,if_true]
     cases hp:c.Pts with
     |nil=>rw [hp]at h1;simp at h1
     |cons p r=>
      have:=Xh c hl h3 r p 0 ⟨0,0⟩ (by rw [hp];rfl) ⟨by decide,by decide,by decide,by decide⟩
      rw [l8 rfl,show ((0:Nat):Int)=0 from rfl]at this
      rw [this]
      by_cases h4:DH none (p::r)=0
      ·rw [l8 h4,h4];rfl
      ·rw [l9 h4];rfl
theorem IJ (v w:CurveVector):I0 v w=I0 w v:=by unfold I0;rw [Int.mul_comm v.x,Int.mul_comm v.y]
theorem Ut (c:Curve)(hl:c.Pts.length≤1000000): ∀(r:List Spot) (i:Nat),c.Pts.drop i=r→loop (Z1 c) (i:Int)=some (if r.all Me then .inl ()else .inr 2):=by
  intro r
  induction r with
  |nil=>
   intro i hi
   have:=Ap hi
   refine J2 ?_
   unfold Z1
   simp only [show ¬(i:Int)<c.Pts.length by omega,decide_false,l7,List.all_nil,if_true]
  |cons p r ih=>
   intro i hi
   have hlt:=X0 hi
   have hstep:Z1 c (i:Int)=if Me p then some (.go ((i+1:Nat):Int))else some (.out (.inr 2)):=by
     unfold Z1
     simp only [show (i:Int)<c.Pts.length by omega,decide_true,l6,W9 hi,lA,Xg]
     cases h:Me p with
     |true=>simp only [bD,l7,if_true];rw [M9 (by omega)];rfl
     |false=>simp
   cases h:Me p with
   |true=>
    rw [h,l8 rfl]at hstep
    rw [U2 hstep,ih (i+1) (Q5 hi)]
    simp [h]
   |false=>
    rw [h]at hstep
    rw [J2 hstep]
    simp [h]
theorem MI {v:CurveVector}(hv:IP v): ∃l,Ee (I0 v v)=some l∧(J3 (l*l) !=I0 v v)= !(rt (I0 v v)*rt (I0 v v)==I0 v v)∧(rt (I0 v v)*rt (I0 v v)=I0 v v→l=rt (I0 v v)):=by
  have hb:=FT hv hv
  obtain ⟨l,h1,h2,h3,h4,h5⟩:=Yl (FU v) (by omega)
  have hmm:l*l≤134217728*134217728:=GW (by omega) (by omega)
  have hmm0:=Iy l
  refine ⟨l,h1,?_,fun h=>h5 (h4.2 h)⟩
  rw [M9 (by omega)]
  by_cases h:l*l=I0 v v
  ·simp [h,h4.1 h]
  ·have h': ¬rt (I0 v v)*rt (I0 v v)=I0 v v:=fun q=>h (h4.2 q)
   have e1:(l*l !=I0 v v)=true:=bne_iff_ne.2 h
   have e2:(rt (I0 v v)*rt (I0 v v)==I0 v v)=false:=beq_eq_false_iff_ne.2 h'
   rw [e1,e2];rfl
theorem Uu (c:Curve)(hl:c.Pts.length≤1000000)(hok:c.Pts.all Me=true): ∀(r:List Spot) (p:Spot) (i:Nat) (last:Option CurveVector),c.Pts.drop i=p::r→
    (i=0∧last=none∨∃j a,i=j+1∧c.Pts.drop j=a::p::r∧last=some (L9 a p))→
    loop (Z0 c) (i:Int)=some (if DH last (p::r)=0 then .inl ()else .inr (DH last (p::r))):=by
  intro r
  induction r with
  |nil=>
   intro p i last hi hlast
   have hlt:=X0 hi
   have:=Ap (Q5 hi)
   refine J2 ?_
   unfold Z0
   rw [M9 (n:=(i:Int)+1) (by omega)]
   simp only [show ¬(i:Int)+1< (c.Pts.length:Int) by omega,decide_false,l7,DH,if_true]
  |cons q r ih=>
   intro p i last hi hlast
   have hlt:=X0 hi
   have hi1:=Q5 hi
   have hlt1:=X0 hi1
   have hp:Me p=true:=lT.1 hok p (List.mem_of_mem_drop (i:=i) (by rw [hi];simp))
   have hq:Me q=true:=lT.1 hok q (List.mem_of_mem_drop (i:=i) (by rw [hi];simp))
   have hv:=Rw hp hq
   have hg1:E6 c.Pts ((i:Int)+1)=some q:=by have:=W9 hi1;simpa using this
   obtain ⟨l,hl1,hl2,hl3⟩:=MI hv
   have hstep:Z0 c (i:Int)=
    if rt (I0 (L9 p q) (L9 p q))*rt (I0 (L9 p q) (L9 p q))≠I0 (L9 p q) (L9 p q)then some (.out (.inr 3))
    else if rt (I0 (L9 p q) (L9 p q))<1000∨rt (I0 (L9 p q) (L9 p q))>1048576 then some (.out (.inr 2))
    else match last with
      |some u=>if I0 u (L9 p q)≤0 then some (.out (.inr 12))else some (.go ((i+1:Nat):Int))
      |none=>some (.go ((i+1:Nat):Int)):=by
     unfold Z0
     rw [M9 (n:=(i:Int)+1) (by omega)]
     simp only [show (i:Int)+1< (c.Pts.length:Int) by omega,decide_true,l6,W9 hi,hg1,lA,Jz hp hq,Mg hv hv,hl1,hl2]
     by_cases h1:rt (I0 (L9 p q) (L9 p q))*rt (I0 (L9 p q) (L9 p q))=I0 (L9 p q) (L9 p q)
     ·simp only [h1,beq_self_eq_true,bD,l7,ne_eq,not_true_eq_false,if_false,hl3 h1]
      by_cases h2:rt (I0 (L9 p q) (L9 p q))<1000∨rt (I0 (L9 p q) (L9 p q))>1048576
      ·rw [l8 h2]
       have:(decide (rt (I0 (L9 p q) (L9 p q))<1000)||decide (rt (I0 (L9 p q) (L9 p q))>1048576))=true:=by simpa using h2
       rw [this];rfl
      ·rw [l9 h2]
       have:(decide (rt (I0 (L9 p q) (L9 p q))<1000)||decide (rt (I0 (L9 p q) (L9 p q))>1048576))=false:=by simpa using h2
       rw [this]
       simp only [l7]
       rcases hlast with ⟨rfl,rfl⟩|⟨j,a,rfl,hj,rfl⟩
       ·simp only [Int.natCast_zero,gt_iff_lt,Int.lt_irrefl,decide_false,l7,Bool.false_and,lA]
        rfl
       ·have h4:(((j+1:Nat):Int))>0:=by omega
        have ha:Me a=true:=lT.1 hok a (List.mem_of_mem_drop (i:=j) (by rw [hj];simp))
        have hva:=Rw ha hp
        have hgj:E6 c.Pts (J3 (((j+1:Nat):Int) - 1))=some a:=by
          rw [M9 (by omega),show (((j+1:Nat):Int) - 1)=(j:Int) by omega]
          exact W9 hj
        simp only [h4,decide_true,l6,hgj,lA,Jz ha hp,Mg hv hva,bA]
        rw [IJ (L9 p q) (L9 a p)]
        by_cases h5:I0 (L9 a p) (L9 p q)≤0
        ·simp [h5]
        ·simp [h5]
     ·have:(rt (I0 (L9 p q) (L9 p q))*rt (I0 (L9 p q) (L9 p q))==I0 (L9 p q) (L9 p q))=false:=by simpa using h1
      simp only [this,bE,l6,ne_eq,h1,not_false_eq_true,if_true]
   rw [Rx]
   have hrec:=ih q (i+1) (some (L9 p q)) hi1 (.inr ⟨i,p,rfl,hi,rfl⟩)
   by_cases h1:rt (I0 (L9 p q) (L9 p q))*rt (I0 (L9 p q) (L9 p q))≠I0 (L9 p q) (L9 p q)
   ·rw [l8 h1]at hstep
    rw [J2 hstep,l8 h1];rfl
   ·rw [l9 h1]at hstep ⊢
    by_cases h2:rt (I0 (L9 p q) (L9 p q))<1000∨rt (I0 (L9 p q) (L9 p q))>1048576
    ·rw [l8 h2]at hstep
     rw [J2 hstep,l8 h2];rfl
    ·rw [l9 h2]at hstep ⊢
     cases last with
     |none=>rw [U2 hstep,hrec]
     |some u=>
      dsimp only at hstep ⊢
      by_cases h5:I0 u (L9 p q)≤0
      ·rw [l8 h5]at hstep
       rw [J2 hstep];simp [h5]
      ·rw [l9 h5]at hstep
       rw [U2 hstep,hrec];simp [h5]
theorem Of (c:Curve)(hl:c.Pts.length≤1000000):Ga c=some (X7 c.Pts):=by
  unfold Ga X7
  by_cases h1:c.Pts.length<2
  ·rw [l8 h1,show decide ((c.Pts.length:Int)<2)=true by simp;omega];rfl
  ·rw [l9 h1,show decide ((c.Pts.length:Int)<2)=false by simp;omega]
   simp only [l7]
   by_cases h2:c.Pts.length>16
   ·rw [l8 h2,show decide ((c.Pts.length:Int)>16)=true by simp;omega];rfl
   ·rw [l9 h2,show decide ((c.Pts.length:Int)>16)=false by simp;omega]
    have hg:=Ut c hl c.Pts 0 (by simp)
    rw [show ((0:Nat):Int)=0 from rfl]at hg
    simp only [l7,hg]
    cases h3:c.Pts.all Me with
    |false=>rfl
    |true=>
     simp only [if_true,thenS]
     cases hp:c.Pts with
     |nil=>rw [hp]at h1;simp at h1
     |cons p r=>
      have:=Uu c hl h3 r p 0 none (by rw [hp];rfl) (.inl ⟨rfl,rfl⟩)
      rw [show ((0:Nat):Int)=0 from rfl]at this
      rw [this]
      by_cases h4:DH none (p::r)=0
      ·rw [l8 h4,h4]
      ·rw [l9 h4]
/-- What a valid chain is. -/
inductive Good:Option CurveVector→List Spot→Prop
  |one (last:Option CurveVector) (p:Spot):Good last [p]
  |cons (last:Option CurveVector) (p q:Spot) (r:List Spot) (h1:rt (I0 (L9 p q) (L9 p q))*rt (I0 (L9 p q) (L9 p q))=I0 (L9 p q) (L9 p q)) (h2:1000≤rt (I0 (L9 p q) (L9 p q))) (h3:rt (I0 (L9 p q) (L9 p q))≤1048576)
     (h4: ∀u,last=some u→0<I0 u (L9 p q)) (h:Good (some (L9 p q)) (q::r)):Good last (p::q::r)
theorem DI: ∀(r:List Spot) (p:Spot) (last:Option CurveVector),DH last (p::r)=0→Good last (p::r):=by
  intro r
  induction r with
  |nil=>intro p last _;exact .one _ _
  |cons q r ih=>
   intro p last h
   rw [Rx]at h
   split at h
   ·cases h
   ·rename_i h1
    split at h
    ·cases h
    ·rename_i h2
     have h1:rt (I0 (L9 p q) (L9 p q))*rt (I0 (L9 p q) (L9 p q))=I0 (L9 p q) (L9 p q):=by simpa using h1
     cases last with
     |none=>exact .cons _ _ _ _ h1 (by omega) (by omega) (fun u hu=>by cases hu) (ih q _ h)
     |some u=>
      dsimp only at h
      split at h
      ·cases h
      ·exact .cons _ _ _ _ h1 (by omega) (by omega) (fun u' hu=>by cases hu;omega) (ih q _ h)
theorem DJ {last:Option CurveVector}{l:List Spot}(h:Good last l):DH last l=0:=by
  induction h with
  |one=>rfl
  |cons last p q r h1 h2 h3 h4 h ih=>
   rw [Rx,l9 (by simpa using h1),l9 (by omega)]
   cases last with
   |none=>exact ih
   |some u=>dsimp only;rw [l9 (by have:=h4 u rfl;omega)];exact ih
structure Valid (l:List Spot):Prop where
  two:2≤l.length
  most:l.length≤16
  ok:l.all Me=true
  good:Good none l
theorem checkM_zero {l:List Spot}:X7 l=0↔Valid l:=by
  unfold X7
  constructor
  ·intro h
   split at h
   ·cases h
   ·rename_i h1
    split at h
    ·cases h
    ·rename_i h2
     split at h
     ·rename_i h3
      cases l with
      |nil=>simp at h1
      |cons p r=>exact ⟨by omega,by omega,h3,DI r p none h⟩
     ·cases h
  ·rintro ⟨h1,h2,h3,h4⟩
   rw [l9 (by omega),l9 (by omega),l8 h3]
   exact DJ h4
/-- The pieces of a chain: the number, the piece. -/
noncomputable def Mh:Nat→Int→List Spot→List (Int×CurvePiece)
  |i,s,p::q::r=>((i:Int),⟨p,L9 p q,rt (I0 (L9 p q) (L9 p q)),s⟩)::Mh (i+1) (J3 (s+rt (I0 (L9 p q) (L9 p q)))) (q::r)
  |_,_,_=> []
theorem Ry (i:Nat)(s:Int)(p q:Spot)(r:List Spot):Mh i s (p::q::r)=((i:Int),⟨p,L9 p q,rt (I0 (L9 p q) (L9 p q)),s⟩)::Mh (i+1) (J3 (s+rt (I0 (L9 p q) (L9 p q)))) (q::r):=by conv=>lhs;unfold Mh
theorem DK (pts:List Spot)(hok:pts.all Me=true): ∀(r:List Spot) (p:Spot) (i:Nat) (s:Int),pts.drop i=p::r→Dc pts r.length i s=some (Mh i s (p::r)):=by
  intro r
  induction r with
  |nil=>intro p i s _;rfl
  |cons q r ih=>
   intro p i s hi
   have hi1:=Q5 hi
   have hp:Me p=true:=lT.1 hok p (List.mem_of_mem_drop (i:=i) (by rw [hi];simp))
   have hq:Me q=true:=lT.1 hok q (List.mem_of_mem_drop (i:=i) (by rw [hi];simp))
   have hv:=Rw hp hq
   have h0:pts[i]? =some p:=by have:=congrArg (fun z=>z[0]?) hi;simpa using this
   have h1:pts[i+1]? =some q:=by have:=congrArg (fun z=>z[0]?) hi1;simpa using this
   rw [lJ,Dc,h0,h1]
   simp only [lA,Pr hp hq,Mf hv hv,Pq]
   rw [ih q (i+1) _ hi1,Ry]
   rfl
theorem FV {pts:List Spot}(h:Valid pts):Kl pts=some (Mh 0 0 pts):=by
  unfold Kl
  have:=h.most
  rw [l8 (by omega)]
  cases hp:pts with
  |nil=>have:=h.two;rw [hp]at this;simp at this
  |cons p r=>exact DK (p::r) (by rw [← hp];exact h.ok) r p 0 0 rfl
/-- The lengths. -/
noncomputable def Pf:List Spot→List Int
  |p::q::r=>rt (I0 (L9 p q) (L9 p q))::Pf (q::r)
  |_=> []
theorem Lj (p q:Spot)(r:List Spot):Pf (p::q::r)=rt (I0 (L9 p q) (L9 p q))::Pf (q::r):=by conv=>lhs;unfold Pf
theorem Kn: ∀(r:List Spot) (p:Spot),(Pf (p::r)).length=r.length
  | [],_=>rfl
  |q::r,p=>by rw [Lj,lJ,Kn r q,lJ]
theorem Rz: ∀(r:List Spot) (p:Spot) (i:Nat) (s:Int),(Mh i s (p::r)).map (·.2.l)=Pf (p::r)
  | [],_,_,_=>rfl
  |q::r,p,i,s=>by rw [Ry,Lj,lM,Rz r q]
theorem DL: ∀(L:List (Int×CurvePiece)) (out:List Int),out.length+L.length≤1000000000→loopL Ae (fun x=>x) L out=some (out++L.map (·.2.l)):=by
  intro L
  induction L with
  |nil=>intro out _;simp [loopL]
  |cons a L ih=>
   intro out h
   simp only [lJ]at h
   have:Ae out a=some (.go (out++ [a.2.l])):=by
     unfold Ae
     rw [Bm (by simp;omega)];rfl
   rw [loopL,this]
   dsimp only
   rw [ih _ (by simp;omega)]
   simp
theorem Uv (c:Curve)(hl:c.Pts.length≤1000000):Ar c=some (if X7 c.Pts=0 then Pf c.Pts else []):=by
  unfold Ar
  rw [Oe c hl,lA]
  by_cases h:X7 c.Pts=0
  ·rw [l8 h,h]
   have hv:=checkM_zero.1 h
   have:=hv.most
   simp only [bne_self_eq_false,l7,FV hv,lA]
   cases hp:c.Pts with
   |nil=>have:=hv.two;rw [hp]at this;simp at this
   |cons p r=>
    have e:=Rz r p 0 0
    rw [DL _ _ (by
     have:=congrArg List.length e
     rw [lN,Kn]at this
     rw [this];rw [hp]at hl;simp at hl ⊢;omega)]
    rw [e];rfl
  ·rw [l9 h,show (X7 c.Pts !=0)=true from bne_iff_ne.2 h];rfl
theorem Sa (c:Curve)(hl:c.Pts.length≤1000000)(hok:c.Pts.all Me=true): ∀(r:List Spot) (p:Spot) (i:Nat) (out:List Int) (last:Option CurveVector),c.Pts.drop i=p::r→Good last (p::r)→out.length+r.length≤1000000→
    loop (X5 c) (out,(i:Int))=some (out++Pf (p::r)):=by
  intro r
  induction r with
  |nil=>
   intro p i out last hi _ _
   have hlt:=X0 hi
   have:=Ap (Q5 hi)
   refine J2 ?_
   unfold X5
   dsimp only
   rw [M9 (n:=(i:Int)+1) (by omega)]
   simp only [show ¬(i:Int)+1< (c.Pts.length:Int) by omega,decide_false,l7,Pf,List.append_nil]
  |cons q r ih=>
   intro p i out last hi hg ho
   have hlt:=X0 hi
   have hi1:=Q5 hi
   have hlt1:=X0 hi1
   have hp:Me p=true:=lT.1 hok p (List.mem_of_mem_drop (i:=i) (by rw [hi];simp))
   have hq:Me q=true:=lT.1 hok q (List.mem_of_mem_drop (i:=i) (by rw [hi];simp))
   have hv:=Rw hp hq
   have hg1:E6 c.Pts ((i:Int)+1)=some q:=by have:=W9 hi1;simpa using this
   obtain ⟨l,hl1,hl2,hl3⟩:=MI hv
   cases hg with
   |cons _ _ _ _ h1 h2 h3 h4 hg=>
    have hll:=hl3 h1
    subst hll
    simp only [lJ]at ho
    have hstep:X5 c (out,(i:Int))=some (.go (out++ [rt (I0 (L9 p q) (L9 p q))],((i+1:Nat):Int))):=by
      unfold X5
      dsimp only
      rw [M9 (n:=(i:Int)+1) (by omega)]
      simp only [show (i:Int)+1< (c.Pts.length:Int) by omega,decide_true,l6,W9 hi,hg1,lA,Jz hp hq,Mg hv hv,hl1]
      rw [Bm (by simp;omega)]
      rfl
    rw [U2 hstep,ih q (i+1) _ _ hi1 hg (by simp;omega),Lj]
    simp
theorem Uw (c:Curve)(hl:c.Pts.length≤1000000):Gy c=some (if X7 c.Pts=0 then Pf c.Pts else []):=by
  unfold Gy
  rw [Of c hl,lA]
  by_cases h:X7 c.Pts=0
  ·rw [l8 h,h]
   have hv:=checkM_zero.1 h
   simp only [bne_self_eq_false,l7]
   cases hp:c.Pts with
   |nil=>have:=hv.two;rw [hp]at this;simp at this
   |cons p r=>
    have:=Sa c hl hv.ok r p 0 [] none (by rw [hp];rfl) (by rw [← hp];exact hv.good) (by rw [hp]at hl;simp at hl ⊢;omega)
    rw [show ((0:Nat):Int)=0 from rfl]at this
    rw [this];rfl
  ·rw [l9 h,show (X7 c.Pts !=0)=true from bne_iff_ne.2 h];rfl
/-- A sum, as the programs take it. -/
def Qm:Int→List Int→Int
  |s,[]=>s
  |s,a::l=>Qm (J3 (s+a)) l
theorem Sc (l:List Int)(hl:l.length≤1000000): ∀(r:List Int) (i:Nat) (s:Int),l.drop i=r→loop (T9 l) (s,(i:Int))=some (Qm s r):=by
  intro r
  induction r with
  |nil=>
   intro i s hi
   have:=Ap hi
   refine J2 ?_
   unfold T9
   simp only [show ¬(i:Int)<l.length by omega,decide_false,l7,Qm]
  |cons a r ih=>
   intro i s hi
   have hlt:=X0 hi
   have hstep:T9 l (s,(i:Int))=some (.go (J3 (s+a),((i+1:Nat):Int))):=by
     unfold T9
     simp only [show (i:Int)<l.length by omega,decide_true,l6,W9 hi,lA]
     rw [M9 (n:=(i:Int)+1) (by omega)];rfl
   rw [U2 hstep,ih (i+1) _ (Q5 hi),Qm]
theorem Sd (l:List Int)(hl:l.length≤1000000): ∀(r:List Int) (i:Nat) (s:Int),l.drop i=r→loop (U0 l) (s,(i:Int))=some (Qm s r):=by
  intro r
  induction r with
  |nil=>
   intro i s hi
   have:=Ap hi
   refine J2 ?_
   unfold U0
   simp only [show ¬(i:Int)<l.length by omega,decide_false,l7,Qm]
  |cons a r ih=>
   intro i s hi
   have hlt:=X0 hi
   have hstep:U0 l (s,(i:Int))=some (.go (J3 (s+a),((i+1:Nat):Int))):=by
     unfold U0
     simp only [show (i:Int)<l.length by omega,decide_true,l6,W9 hi,lA]
     rw [M9 (n:=(i:Int)+1) (by omega)];rfl
   rw [U2 hstep,ih (i+1) _ (Q5 hi),Qm]
noncomputable def Fk (c:Curve):List Int:=if X7 c.Pts=0 then Pf c.Pts else []
theorem PE: ∀l:List Spot,(Pf l).length≤l.length
  | []=>by simp [Pf]
  |p::r=>by rw [Kn];simp
theorem Xi (c:Curve):(Fk c).length≤c.Pts.length:=by
  unfold Fk
  split
  ·exact PE _
  ·simp
theorem Ux (c:Curve)(hl:c.Pts.length≤1000000):As c=some (Qm 0 (Fk c)):=by
  unfold As
  rw [Uv c hl,lA]
  have:=Xi c
  have h:=Sc (Fk c) (by omega) (Fk c) 0 0 (by simp)
  rw [show ((0:Nat):Int)=0 from rfl]at h
  show (loop (T9 (Fk c)) (0,0)).bind _=_
  rw [h];rfl
theorem Uy (c:Curve)(hl:c.Pts.length≤1000000):Cq c=some (Qm 0 (Fk c)):=by
  unfold Cq
  rw [Uw c hl,lA]
  have:=Xi c
  have h:=Sd (Fk c) (by omega) (Fk c) 0 0 (by simp)
  rw [show ((0:Nat):Int)=0 from rfl]at h
  show (loop (U0 (Fk c)) (0,0)).bind _=_
  rw [h];rfl
/-- A quarter turn, so many times. -/
def IK:Nat→CurveVector→CurveVector
  |0,v=>v
  |n+1,v=>IK n ⟨-v.y,v.x⟩
theorem BJ: ∀(n:Nat) (v w:CurveVector),I0 (IK n v) (IK n w)=I0 v w
  |0,_,_=>rfl
  |n+1,v,w=>by rw [IK,IK,BJ n];unfold I0;grind
/-- A piece's vector, made of numbers: in one quadrant. -/
def RE (n:Nat)(v:CurveVector):Prop:= ∃x y L:Int,v=IK n ⟨x,y⟩∧0<x∧0≤y∧x*x+y*y=L*L∧1000≤L∧L≤3029∧x≤L∧y≤L
inductive Ch (Q:CurveVector→Prop):List Spot→Prop
  |one (p:Spot):Ch Q [p]
  |cons (p q:Spot) (r:List Spot) (h:Q (L9 p q)) (hr:Ch Q (q::r)):Ch Q (p::q::r)
theorem Xj {n:Nat}: ∀(r:List Spot) (p:Spot) (last:Option CurveVector),Ch (RE n) (p::r)→(∀u,last=some u→RE n u)→Good last (p::r)
  | [],p,last,_,_=> .one _ _
  |q::r,p,last,hc,hl=>by
   cases hc with
   |cons _ _ _ h1 h2=>
    have hq:=h1
    obtain ⟨x,y,L,hv,hx,hy,hsq,hL1,hL2,hxL,hyL⟩:=h1
    have hd:I0 (L9 p q) (L9 p q)=L*L:=by rw [hv,BJ];unfold I0;exact hsq
    have hrt:rt (I0 (L9 p q) (L9 p q))=L:=by rw [hd];exact MH (by omega) (by omega)
    refine .cons _ _ _ _ (by rw [hrt,hd]) (by rw [hrt];exact hL1) (by rw [hrt];omega) (fun u hu=> ?_) (Xj r q _ h2 (fun u hu=>by cases hu;exact hq))
    obtain ⟨x',y',L',hv',hx',hy',_⟩:=hl u hu
    rw [hv,hv',BJ]
    unfold I0
    have:=Int.mul_pos hx' hx
    have:=bP hy' hy
    dsimp only
    omega
/-- What the curves made of numbers are like. -/
structure Made (l:List Spot):Prop where
  two:2≤l.length
  six:l.length≤6
  ch: ∃n,Ch (RE n) l
  bd: ∀p∈l, -50000≤p.X∧p.X≤50000∧ -50000≤p.Y∧p.Y≤50000
theorem Made.valid {l:List Spot}(h:Made l):Valid l:=by
  obtain ⟨n,hc⟩:=h.ch
  have:=h.two;have:=h.six
  refine ⟨h.two,by omega,lT.2 fun p hp=>okS_iff.2 (by have:=h.bd p hp;omega),?_⟩
  match l,h,hc with
  |p::r,_,hc=>exact Xj r p none hc (fun u hu=>by cases hu)
  | [],h,_=>exact absurd h.two (by simp)
/-! ### Loops that look for the first error -/
def I5 {α β:Type}(g:Nat→α→Option β):Nat→List α→Option β
  |_,[]=>none
  |i,a::r=>match g i a with
   |some e=>some e
   |none=>I5 g (i+1) r
def FW {β:Type}:Option β→Sum Unit β
  |some e=> .inr e
  |none=> .inl ()
theorem Do {α β:Type}(l:List α)(F:Int→Option (Stp Int (Sum Unit β)))(g:Nat→α→Option β)(hF: ∀(i:Nat) a,l[i]? =some a→F (i:Int)=some (match g i a with|some e=> .out (.inr e)|none=> .go ((i+1:Nat):Int)))(h0:F (l.length:Int)=some (.out (.inl ()))):
    loop F 0=some (FW (I5 g 0 l)):=by
  have key: ∀(r:List α) (i:Nat),l.drop i=r→i≤l.length→loop F (i:Int)=some (FW (I5 g i r)):=by
    intro r
    induction r with
    |nil=>
     intro i hi hil
     have:i=l.length:=by have:=List.drop_eq_nil_iff.1 hi;omega
     subst this
     exact J2 h0
    |cons a r ih=>
     intro i hi hil
     have hlt:i<l.length:=by
       rcases Nat.lt_or_ge i l.length with q|q
       ·exact q
       ·rw [List.drop_eq_nil_of_le q]at hi;cases hi
     have ha:l[i]? =some a:=by have:=congrArg (fun z=>z[0]?) hi;simpa using this
     have hr:l.drop (i+1)=r:=by have:=congrArg (fun z=>z.drop 1) hi;simpa using this
     have hs:=hF i a ha
     unfold I5
     cases hg:g i a with
     |some e=>rw [hg]at hs;exact J2 hs
     |none=>rw [hg]at hs;rw [U2 hs];exact ih (i+1) hr (by omega)
  have:=key l 0 rfl (by omega)
  exact this
theorem firstE_none {α β:Type}{g:Nat→α→Option β}: ∀{l:List α} {i:Nat},I5 g i l=none↔∀(j:Nat) a,l[j]? =some a→g (i+j) a=none
  | [],i=>by simp [I5]
  |a::r,i=>by
   unfold I5
   cases h:g i a with
   |some e=>
    constructor
    ·intro h';cases h'
    ·intro h';have:=h' 0 a rfl;rw [Nat.add_zero,h]at this;cases this
   |none=>
    dsimp only
    rw [firstE_none (l:=r)]
    constructor
    ·intro h' j b hj
     cases j with
     |zero=>cases hj;exact h
     |succ j=>have:=h' j b hj;rwa [show i+1+j=i+ (j+1) by omega]at this
    ·intro h' j b hj
     have:=h' (j+1) b hj
     rwa [show i+ (j+1)=i+1+j by omega]at this
/-! ### Numbers -/
def Ps (n a b:Int):Bool:=decide (a≤n)&&decide (n≤b)
theorem Jd (n a b:Int):Q1 n a b=some (Ps n a b):=rfl
theorem Ka (n a b:Int):Y1 n a b=some (Ps n a b):=rfl
def Mi (kind:Int):Int×Int×Int:=if kind=1 then (2000,30,90)else if kind=2 then (1000,20,60)else if kind=3 then (300,100,300)else (0,0,0)
theorem Zs (k:Int):Ek k=some (Mi k):=by
  unfold Ek Mi
  by_cases h:k<0∨k≥4
  ·rw [show ((decide (k<0))||(decide (k≥4)))=true by simpa using h,l6,l9 (by omega),l9 (by omega),l9 (by omega)]
  ·rw [show ((decide (k<0))||(decide (k≥4)))=false by rw [bF];simpa using h,l7]
   obtain ⟨h1,h2⟩:=not_or.1 h
   rcases (show k=0∨k=1∨k=2∨k=3 by omega)with rfl|rfl|rfl|rfl<;>rfl
theorem Xk (k:Int):Es k=some (Mi k):=by
  unfold Es Mi
  by_cases h1:k=1
  ·subst h1;rfl
  ·by_cases h2:k=2
   ·subst h2;rfl
   ·by_cases h3:k=3
    ·subst h3;rfl
    ·rw [l9 h1,l9 h2,l9 h3]
     rw [show (k==1)=false by simpa using h1,show (k==2)=false by simpa using h2,show (k==3)=false by simpa using h3];rfl
theorem FX {n:Int}(h: -9223372036854775808≤n∧n≤9223372036854775807):J3 n=n:=Go.IntWalk.i64_in n h
theorem G0 {α:Type}{l:List α}{i:Nat}{a:α}(h:l[i]? =some a):E6 l (i:Int)=some a:=by
  unfold E6;rw [l8 (by omega),bJ];exact h
theorem O2 {α:Type}{l:List α}{i:Nat}{a:α}(h:l[i]? =some a):i<l.length:=(lH.1 h).1
theorem Vi {α:Type}(c:Bool)(a b:α):cond c (some a) (some b)=some (cond c a b):=by cases c<;>rfl
def Z3 (high:Int):Int→List Int→Bool
  |_,[]=>true
  |low,n::r=>decide (low≤n)&&decide (n<high)&&Z3 high (n+1) r
theorem Ti (l:List Int)(low high:Int)(hl:l.length≤1000000)(hh:high≤1000000000)(h0:0≤low):V7 l low high=some (Z3 high low l):=by
  have key: ∀(r:List Int) (i:Nat) (lo:Int),0≤lo→l.drop i=r→i≤l.length→loop (X2 l high) (lo,(i:Int))=some (if Z3 high lo r then .inl ()else .inr false):=by
    intro r
    induction r with
    |nil=>
     intro i lo _ hi hil
     have:=Ap hi
     refine J2 ?_
     unfold X2
     dsimp only
     rw [show decide ((i:Int)< (l.length:Int))=false from l4 (by omega)];rfl
    |cons n r ih=>
     intro i lo hlo hi hil
     have hlt:=X0 hi
     have hs:X2 l high (lo,(i:Int))=some (if decide (lo≤n)&&decide (n<high)then .go (n+1,((i+1:Nat):Int))else .out (.inr false)):=by
       unfold X2
       dsimp only
       rw [show decide ((i:Int)< (l.length:Int))=true from l3 (by omega),W9 hi,l6,lA,FX (n:=(i:Int)+1) (by omega)]
       by_cases q:lo≤n∧n<high
       ·rw [show ((decide (n<lo))||(decide (n≥high)))=false by rw [bF];simp;omega,l7,FX (n:=n+1) (by omega),l8 (by simpa using q)];rfl
       ·rw [show ((decide (n<lo))||(decide (n≥high)))=true by simp;omega,l6,l9 (by simpa using q)]
     unfold Z3
     cases q:(decide (lo≤n)&&decide (n<high))
     ·rw [q]at hs;rw [J2 hs];rfl
     ·rw [q]at hs
      simp only [bB,l5]at q
      rw [U2 hs,ih (i+1) (n+1) (by omega) (Q5 hi) (by omega)];rfl
  unfold V7
  have:=key l 0 low h0 rfl (by omega)
  rw [show ((0:Nat):Int)=0 from rfl]at this
  rw [this]
  cases Z3 high low l<;>rfl
theorem Qn (l:List Int)(low high:Int)(hl:l.length≤1000000):Bi l low high=some (Z3 high low l):=by
  have key: ∀(r:List Int) (i:Nat) (lo:Int),low≤lo→(i=0→lo=low)→(0<i→l[i - 1]? =some (lo - 1))→l.drop i=r→i≤l.length→loop (V1 l low high) (i:Int)=some (if Z3 high lo r then .inl ()else .inr false):=by
    intro r
    induction r with
    |nil=>
     intro i lo _ _ _ hi hil
     have:=Ap hi
     refine J2 ?_
     unfold V1
     rw [show decide ((i:Int)< (l.length:Int))=false from l4 (by omega)];rfl
    |cons n r ih=>
     intro i lo hlo h0 h1 hi hil
     have hlt:=X0 hi
     have hn:l[i]? =some n:=by have:=congrArg (fun z=>z[0]?) hi;simpa using this
     have hs:V1 l low high (i:Int)=some (if decide (lo≤n)&&decide (n<high)then .go ((i+1:Nat):Int)else .out (.inr false)):=by
       unfold V1
       rw [show decide ((i:Int)< (l.length:Int))=true from l3 (by omega),W9 hi,l6,lA,Vi,lA,Vi,lA,FX (n:=(i:Int)+1) (by omega)]
       by_cases q1:n<low
       ·rw [l3 q1,l9 (by simp;omega)];rfl
       ·rw [l4 q1]
        simp only [bE,l6,Bool.false_or]
        by_cases q2:n≥high
        ·rw [l3 q2,l9 (by simp;omega)];rfl
        ·rw [l4 q2]
         simp only [bE,bA,Bool.false_or]
         by_cases q3:(i:Int)>0
         ·have e:E6 l (J3 ((i:Int) - 1))=some (lo - 1):=by
            rw [FX (n:=(i:Int) - 1) (by omega),show (i:Int) - 1=((i - 1:Nat):Int) by omega]
            exact G0 (h1 (by omega))
          rw [l3 q3,l6,l6,e,lA,bA]
          by_cases q4:n≤lo - 1
          ·rw [l3 q4,l9 (by simp;omega)];rfl
          ·rw [l4 q4,l8 (by simp;omega)];rfl
         ·have:lo=low:=h0 (by omega)
          rw [l4 q3,l7,lA,Bool.false_and,l8 (by simp;omega)];rfl
     unfold Z3
     cases q:(decide (lo≤n)&&decide (n<high))
     ·rw [q]at hs;rw [J2 hs];rfl
     ·rw [q]at hs
      simp only [bB,l5]at q
      rw [U2 hs,ih (i+1) (n+1) (by omega) (fun z=>by omega) (fun _=>by rw [Nat.add_sub_cancel,hn];congr 1;omega) (Q5 hi) (by omega)];rfl
  unfold Bi
  have:=key l 0 low (Int.le_refl _) (fun _=>rfl) (fun z=>by omega) rfl (by omega)
  rw [show ((0:Nat):Int)=0 from rfl]at this
  rw [this]
  cases Z3 high low l<;>rfl
noncomputable def MJ (c:Curve):Int:=Qm 0 (Fk c)
theorem PF {m:Map}{i:Nat}{l:Lane}(h:m.Lanes[i]? =some l)(hl:l.Curve_.Pts.length≤1000000):T0 m (i:Int)=some (MJ l.Curve_):=by
  unfold T0
  rw [G0 h,lA,Ux _ hl];rfl
/-- The lists of a map are of bearable lengths. -/
structure Bear (m:Map):Prop where
  lanes:m.Lanes.length≤1000000
  pts: ∀l∈m.Lanes,l.Curve_.Pts.length≤1000000∧l.Next.length≤1000000
noncomputable def laneE (n:Nat)(i:Nat)(l:Lane):Option Int:=
  if (Mi l.Kind).1=0 then some 4
  else if X7 l.Curve_.Pts≠0 then some (X7 l.Curve_.Pts)
  else if (Ps l.Half 200 4000&&Ps l.Limit 1 (Mi l.Kind).1)=false then some 2
  else if 3<l.Next.length then some 8
  else if Z3 n (i+1) l.Next=false then some 11 else none
theorem MK {m:Map}(B:Bear m):P1 ⟨m⟩=some ((I5 (laneE m.Lanes.length) 0 m.Lanes).getD 0):=by
  have h:=Do m.Lanes (M2 ⟨m⟩) (laneE m.Lanes.length) (fun i l hl=>by
    have hi:=O2 hl
    have hb:=B.lanes
    obtain ⟨p1,p2⟩:=B.pts l (lF hl)
    unfold M2 laneE
    dsimp only
    rw [show decide ((i:Int)< (m.Lanes.length:Int))=true from l3 (by omega),G0 hl,l6,lA,Zs,lA,Oe _ p1,lA,Jd,Jd,lA,Vi,lA,FX (n:=(i:Int)+1) (by omega),Ti _ _ _ p2 (by omega) (by omega),lA]
    by_cases h1:(Mi l.Kind).1=0
    ·rw [l8 h1,show ((Mi l.Kind).1==0)=true by simpa using h1];rfl
    ·rw [l9 h1,show ((Mi l.Kind).1==0)=false by simpa using h1,l7]
     by_cases h2:X7 l.Curve_.Pts≠0
     ·rw [l8 h2,show (X7 l.Curve_.Pts !=0)=true by simpa using h2];rfl
     ·rw [l9 h2,show (X7 l.Curve_.Pts !=0)=false by simpa using h2,l7]
      cases Ps l.Half 200 4000
      ·rfl
      ·cases Ps l.Limit 1 (Mi l.Kind).1
       ·rfl
       ·simp only [bD,bE,l6,l7,Bool.false_or,Bool.and_self]
        rw [l9 (by decide)]
        by_cases h3:3<l.Next.length
        ·rw [l8 h3,show decide ((l.Next.length:Int)>3)=true from l3 (by omega)];rfl
        ·rw [l9 h3,show decide ((l.Next.length:Int)>3)=false from l4 (by omega),l7]
         cases Z3 (m.Lanes.length:Int) ((i:Int)+1) l.Next<;>rfl) (by
    unfold M2
    dsimp only
    rw [show decide ((m.Lanes.length:Int)< (m.Lanes.length:Int))=false from l4 (by omega)];rfl)
  unfold P1
  rw [h]
  cases I5 (laneE m.Lanes.length) 0 m.Lanes<;>rfl
theorem ML (k:Int):((decide (k<1))||(decide (k>3)))=decide ((Mi k).1=0):=by
  unfold Mi
  by_cases h1:k=1
  ·subst h1;rfl
  ·by_cases h2:k=2
   ·subst h2;rfl
   ·by_cases h3:k=3
    ·subst h3;rfl
    ·rw [l9 h1,l9 h2,l9 h3]
     simp only [decide_true,bC,l5]
     omega
theorem MM {m:Map}(B:Bear m){i:Nat}{l:Lane}(hl:m.Lanes[i]? =some l):Dd m (i:Int)=some ((laneE m.Lanes.length i l).getD 0):=by
  have hi:=O2 hl
  have hb:=B.lanes
  obtain ⟨p1,p2⟩:=B.pts l (lF hl)
  unfold Dd laneE
  rw [G0 hl,lA,ML,Of _ p1,lA,Xk,lA,Ka,Ka,lA,Vi,lA,FX (n:=(i:Int)+1) (by omega),Qn _ _ _ p2,lA]
  by_cases h1:(Mi l.Kind).1=0
  ·rw [l8 h1,l3 h1];rfl
  ·rw [l9 h1,l4 h1,l7]
   by_cases h2:X7 l.Curve_.Pts≠0
   ·rw [l8 h2,show (X7 l.Curve_.Pts !=0)=true by simpa using h2];rfl
   ·rw [l9 h2,show (X7 l.Curve_.Pts !=0)=false by simpa using h2,l7]
    cases Ps l.Half 200 4000
    ·rfl
    ·cases Ps l.Limit 1 (Mi l.Kind).1
     ·rfl
     ·simp only [bD,bE,l6,l7,Bool.false_or,Bool.and_self]
      rw [l9 (by decide)]
      by_cases h3:3<l.Next.length
      ·rw [l8 h3,show decide ((l.Next.length:Int)>3)=true from l3 (by omega)];rfl
      ·rw [l9 h3,show decide ((l.Next.length:Int)>3)=false from l4 (by omega),l7]
       cases Z3 (m.Lanes.length:Int) ((i:Int)+1) l.Next<;>rfl
theorem Xl {n i:Nat}{l:Lane}{e:Int}(h:laneE n i l=some e):e≠0:=by
  unfold laneE at h
  split at h
  ·cases h;decide
  ·split at h
   ·rename_i h2;cases h;exact h2
   ·split at h
    ·cases h;decide
    ·split at h
     ·cases h;decide
     ·split at h
      ·cases h;decide
      ·cases h
theorem DM {m:Map}(B:Bear m):loop (Z2 m) 0=some (FW (I5 (laneE m.Lanes.length) 0 m.Lanes)):=
  Do m.Lanes (Z2 m) (laneE m.Lanes.length) (fun i l hl=>by
   have hi:=O2 hl
   have hb:=B.lanes
   unfold Z2
   rw [show decide ((i:Int)< (m.Lanes.length:Int))=true from l3 (by omega),MM B hl,l6,lA,FX (n:=(i:Int)+1) (by omega)]
   cases h:laneE m.Lanes.length i l with
   |none=>rfl
   |some e=>
    rw [Option.getD_some,show (e !=0)=true by simpa using Xl h];rfl) (by
   unfold Z2
   rw [show decide ((m.Lanes.length:Int)< (m.Lanes.length:Int))=false from l4 (by omega)];rfl)
theorem Je {high:Int}: ∀{l:List Int} {low:Int},Z3 high low l=true→∀k∈l,low≤k∧k<high
  | [],_,_,k,hk=>by cases hk
  |n::r,low,h,k,hk=>by
   unfold Z3 at h
   simp only [bB,l5]at h
   rcases lP.1 hk with rfl|hk
   ·exact h.1
   ·have:=Je h.2 k hk
    omega
/-- What a lane is that has no error of its own. -/
structure LaneOK (n i:Nat)(l:Lane):Prop where
  kind:(Mi l.Kind).1≠0
  curve:X7 l.Curve_.Pts=0
  half:Ps l.Half 200 4000=true
  limit:Ps l.Limit 1 (Mi l.Kind).1=true
  few:l.Next.length≤3
  next:Z3 n (i+1) l.Next=true
theorem FY {n i:Nat}{l:Lane}(h:laneE n i l=none):LaneOK n i l:=by
  unfold laneE at h
  split at h
  ·cases h
  ·rename_i h1
   split at h
   ·cases h
   ·rename_i h2
    split at h
    ·cases h
    ·rename_i h3
     split at h
     ·cases h
     ·rename_i h4
      split at h
      ·cases h
      ·rename_i h5
       simp only [Bool.not_eq_false,bB]at h3
       exact ⟨h1,Decidable.not_not.1 h2,h3.1,h3.2,by omega,by simpa using h5⟩
theorem Og {m:Map}(h:I5 (laneE m.Lanes.length) 0 m.Lanes=none){i:Nat}{l:Lane}(hl:m.Lanes[i]? =some l):LaneOK m.Lanes.length i l:=by
  have:=firstE_none.1 h i l hl
  rw [bN]at this
  exact FY this
theorem Tj {l:List Spot}(h:X7 l=0):2≤l.length:=by
  unfold X7 at h
  split at h
  ·cases h
  ·omega
def Pt (l:List Spot):Spot:=l.headD ⟨0,0⟩
def Ms (l:List Spot):Spot:=l.getLastD ⟨0,0⟩
theorem Zt {l:List Spot}(h:2≤l.length):E6 l 0=some (Pt l):=by
  cases l with
  |nil=>simp at h
  |cons a r=>rfl
theorem Zu {l:List Spot}(h:2≤l.length)(hl:l.length≤1000000):E6 l (J3 ((l.length:Int) - 1))=some (Ms l):=by
  rw [FX (by omega),show (l.length:Int) - 1=((l.length - 1:Nat):Int) by omega]
  refine G0 ?_
  unfold Ms
  rw [List.getLastD_eq_getLast?,List.getLast?_eq_getElem?]
  rw [lG (by omega)];rfl
def DN (a b:Spot):Bool:=a.X==b.X&& (a.Y==b.Y&&true)
def Qo (m:Map)(l:Lane)(_:Nat)(k:Int):Option Int:=
  match m.Lanes[k.toNat]? with
  |some n=>if n.Kind≠l.Kind then some 4 else if DN (Pt n.Curve_.Pts) (Ms l.Curve_.Pts)=false then some 3 else none
  |none=>none
def Hb (m:Map)(_:Nat)(l:Lane):Option Int:=I5 (Qo m l) 0 l.Next
theorem Xm {m:Map}(B:Bear m)(H:I5 (laneE m.Lanes.length) 0 m.Lanes=none){i:Nat}{l:Lane}(hl:m.Lanes[i]? =some l){j:Nat}{k:Int}(hk:l.Next[j]? =some k):
    ∃n,E6 m.Lanes k=some n∧m.Lanes[k.toNat]? =some n∧2≤n.Curve_.Pts.length∧n.Curve_.Pts.length≤1000000:=by
  have L:=Og H hl
  have hb:=Je L.next k (lF hk)
  have hlt:k.toNat<m.Lanes.length:=by omega
  refine ⟨m.Lanes[k.toNat],?_,lG hlt,Tj (Og H (lG hlt)).curve,(B.pts _ (List.getElem_mem hlt)).1⟩
  unfold E6
  rw [l8 (by omega),lG hlt]
theorem IL {m:Map}{l:Lane}{j:Nat}{k e:Int}(h:Qo m l j k=some e):e≠0:=by
  unfold Qo at h
  split at h
  ·split at h
   ·cases h;decide
   ·split at h
    ·cases h;decide
    ·cases h
  ·cases h
theorem Zv {m:Map}(B:Bear m)(H:I5 (laneE m.Lanes.length) 0 m.Lanes=none){i:Nat}{l:Lane}(hl:m.Lanes[i]? =some l):
    loop (Q6 ⟨m⟩ l (Ms l.Curve_.Pts)) 0=some (FW (Hb m i l))∧loop (V2 m l) 0=some (FW (Hb m i l)):=by
  have L:=Og H hl
  obtain ⟨p1,p2⟩:=B.pts l (lF hl)
  constructor
  ·refine Do l.Next _ (Qo m l) (fun j k hk=> ?_) ?_
   ·have hj:=O2 hk
    obtain ⟨n,g1,g2,g3,g4⟩:=Xm B H hl hk
    unfold Q6 Qo
    dsimp only
    rw [show decide ((j:Int)< (l.Next.length:Int))=true from l3 (by omega),G0 hk,l6,lA,g1,lA,lA,Zt g3,lA,FX (n:=(j:Int)+1) (by omega),g2]
    dsimp only
    rw [show ((Pt n.Curve_.Pts).X==(Ms l.Curve_.Pts).X&& ((Pt n.Curve_.Pts).Y==(Ms l.Curve_.Pts).Y&&true))=DN (Pt n.Curve_.Pts) (Ms l.Curve_.Pts) from rfl]
    by_cases h1:n.Kind≠l.Kind
    ·rw [l8 h1,show (n.Kind !=l.Kind)=true by simpa using h1];rfl
    ·rw [l9 h1,show (n.Kind !=l.Kind)=false by simpa using h1]
     cases DN (Pt n.Curve_.Pts) (Ms l.Curve_.Pts)<;>rfl
   ·unfold Q6
    rw [show decide ((l.Next.length:Int)< (l.Next.length:Int))=false from l4 (by omega)];rfl
  ·refine Do l.Next _ (Qo m l) (fun j k hk=> ?_) ?_
   ·have hj:=O2 hk
    obtain ⟨n,g1,g2,g3,g4⟩:=Xm B H hl hk
    unfold V2 Qo
    rw [show decide ((j:Int)< (l.Next.length:Int))=true from l3 (by omega),G0 hk,l6,lA,g1,lA,Zt g3,lA,Zu (Tj L.curve) p1,lA,FX (n:=(j:Int)+1) (by omega),g2]
    dsimp only
    rw [show ((Pt n.Curve_.Pts).X==(Ms l.Curve_.Pts).X&& ((Pt n.Curve_.Pts).Y==(Ms l.Curve_.Pts).Y&&true))=DN (Pt n.Curve_.Pts) (Ms l.Curve_.Pts) from rfl]
    by_cases h1:n.Kind≠l.Kind
    ·rw [l8 h1,show (n.Kind !=l.Kind)=true by simpa using h1];rfl
    ·rw [l9 h1,show (n.Kind !=l.Kind)=false by simpa using h1]
     cases DN (Pt n.Curve_.Pts) (Ms l.Curve_.Pts)<;>rfl
   ·unfold V2
    rw [show decide ((l.Next.length:Int)< (l.Next.length:Int))=false from l4 (by omega)];rfl
theorem Zw {m:Map}(B:Bear m)(H:I5 (laneE m.Lanes.length) 0 m.Lanes=none):
    O4 ⟨m⟩=some ((I5 (Hb m) 0 m.Lanes).getD 0)∧De m=some ((I5 (Hb m) 0 m.Lanes).getD 0):=by
  have hb:=B.lanes
  constructor
  ·have h:=Do m.Lanes (K8 ⟨m⟩) (Hb m) (fun i l hl=>by
     have hi:=O2 hl
     have L:=Og H hl
     obtain ⟨p1,p2⟩:=B.pts l (lF hl)
     unfold K8
     dsimp only
     rw [show decide ((i:Int)< (m.Lanes.length:Int))=true from l3 (by omega),G0 hl,l6,lA,Zu (Tj L.curve) p1,lA,(Zv B H hl).1,FX (n:=(i:Int)+1) (by omega)]
     cases Hb m i l<;>rfl) (by
     unfold K8
     dsimp only
     rw [show decide ((m.Lanes.length:Int)< (m.Lanes.length:Int))=false from l4 (by omega)];rfl)
   unfold O4
   rw [h]
   cases I5 (Hb m) 0 m.Lanes<;>rfl
  ·have h:=Do m.Lanes (V3 m) (Hb m) (fun i l hl=>by
     have hi:=O2 hl
     unfold V3
     rw [show decide ((i:Int)< (m.Lanes.length:Int))=true from l3 (by omega),G0 hl,l6,lA,(Zv B H hl).2,FX (n:=(i:Int)+1) (by omega)]
     cases Hb m i l<;>rfl) (by
     unfold V3
     rw [show decide ((m.Lanes.length:Int)< (m.Lanes.length:Int))=false from l4 (by omega)];rfl)
   unfold De
   rw [h]
   cases I5 (Hb m) 0 m.Lanes<;>rfl
/-- The place of the first element with a property. -/
theorem FZ {α:Type}{f:Int→Option (Stp Int (Sum Unit Int))}(l:List α)(P:α→Bool)(hl:l.length≤1000000000)(hf: ∀(i:Nat) a,l[i]? =some a→f (i:Int)=some (if P a then .out (.inr (i:Int))else .go (J3 ((i:Int)+1))))(he:f (l.length:Int)=some (.out (.inl ()))):
    loop f 0=some (match l.findIdx? P with|some i=> .inr (i:Int)|none=> .inl ()):=by
  have key: ∀(r:List α) (i:Nat),l.drop i=r→i≤l.length→loop f (i:Int)=some (match r.findIdx? P with|some j=> .inr ((i+j:Nat):Int)|none=> .inl ()):=by
    intro r
    induction r with
    |nil=>
     intro i hi hil
     have:=Ap hi
     obtain rfl:i=l.length:=by omega
     rw [J2 he];rfl
    |cons a r ih=>
     intro i hi _
     have hlt:=X0 hi
     have h0:l[i]? =some a:=by have:=congrArg (fun z=>z[0]?) hi;simpa using this
     have hs:=hf i a h0
     rw [List.findIdx?_cons]
     by_cases hp:P a=true
     ·rw [l8 hp]at hs
      rw [J2 hs,l8 hp];simp
     ·rw [l9 hp]at hs
      rw [M9 (by omega)]at hs
      rw [U2 hs,show ((i:Int)+1)=((i+1:Nat):Int) by omega,ih (i+1) (Q5 hi) (by omega),l9 hp]
      cases r.findIdx? P with
      |none=>rfl
      |some j=>simp only [lE];congr 3;omega
  have:=key l 0 rfl (by omega)
  rw [show ((0:Nat):Int)=0 from rfl]at this
  rw [this]
  cases l.findIdx? P<;>simp
/-- -1, or the place. -/
def PG {α:Type}(P:α→Bool)(l:List α):Int:=match l.findIdx? P with|some i=>(i:Int)|none=> -1
theorem DO {α:Type}(P:α→Bool)(l:List α):decide (PG P l≥0)=l.any P:=by
  unfold PG
  cases h:l.findIdx? P with
  |none=>
   have:=List.findIdx?_eq_none_iff.1 h
   rw [show l.any P=false by rw [List.any_eq_false];intro x hx;simpa using this x hx]
   decide
  |some i=>
   have:=List.findIdx?_isSome (xs:=l) (p:=P)
   rw [h]at this
   rw [← this]
   simp
/-- What both twins compute of a list. -/
theorem DP {α:Type}{f:Int→Option (Stp Int (Sum Unit Int))}(l:List α)(P:α→Bool)(hl:l.length≤1000000000)(hf: ∀(i:Nat) a,l[i]? =some a→f (i:Int)=some (if P a then .out (.inr (i:Int))else .go (J3 ((i:Int)+1))))(he:f (l.length:Int)=some (.out (.inl ()))):
    thenS (loop f 0) (fun _=>some (-1)) (fun r=>some r)=some (PG P l):=by
  rw [FZ l P hl hf he]
  unfold PG
  cases l.findIdx? P<;>rfl
theorem IM (l:List Phase)(hl:l.length≤1000000):C7 l=some (l.any fun p=> !Ps p.Ticks 1 10000):=by
  unfold C7 E0
  rw [DP l (fun p=> !Ps p.Ticks 1 10000) (by omega) (fun i a h=>by
   have:=O2 h
   unfold F6 Z6
   rw [show decide ((i:Int)< (l.length:Int))=true from l3 (by omega),G0 h,l6,lA,Jd,lA,lA]
   cases Ps a.Ticks 1 10000<;>rfl) (by
   unfold F6
   simp)]
  rw [lA,DO]
theorem GA (m:Map)(l:List Phase)(hl:l.length≤1000000)(hm:m.Lanes.length≤1000000)(hg: ∀p∈l,p.Green.length≤1000000):C6 l ⟨m⟩=some (l.any fun p=> !Z3 m.Lanes.length 0 p.Green):=by
  unfold C6 D6
  rw [DP l (fun p=> !Z3 m.Lanes.length 0 p.Green) (by omega) (fun i a h=>by
   have:=O2 h
   unfold C5 N5
   dsimp only
   rw [show decide ((i:Int)< (l.length:Int))=true from l3 (by omega),G0 h,l6,lA,Ti _ _ _ (hg a (lF h)) (by omega) (by omega),lA,lA]
   cases Z3 (m.Lanes.length:Int) 0 a.Green<;>rfl) (by
   unfold C5
   simp)]
  rw [lA,DO]
structure BearS (m:Map):Prop where
  many:m.Signals.length≤1000000
  phases: ∀s∈m.Signals,s.Phases.length≤1000000∧∀p∈s.Phases,p.Green.length≤1000000
def Ct (m:Map)(_:Nat)(s:Signal):Option Int:=
  if s.Phases.length=0 then some 6
  else if 6<s.Phases.length then some 8
  else if Ps s.Offset 0 1099511627776=false then some 2
  else if (s.Phases.any fun p=> !Ps p.Ticks 1 10000)=true then some 2
  else if (s.Phases.any fun p=> !Z3 m.Lanes.length 0 p.Green)=true then some 11 else none
theorem GB {m:Map}(B:Bear m)(S:BearS m):N3 ⟨m⟩=some ((I5 (Ct m) 0 m.Signals).getD 0):=by
  have h:=Do m.Signals (K0 ⟨m⟩) (Ct m) (fun i s hs=>by
    have hi:=O2 hs
    have hb:=S.many
    obtain ⟨p1,p2⟩:=S.phases s (lF hs)
    unfold K0 Ct
    dsimp only
    rw [show decide ((i:Int)< (m.Signals.length:Int))=true from l3 (by omega),G0 hs,l6,lA,Jd,lA,IM _ p1,lA,GA m _ p1 B.lanes p2,lA,FX (n:=(i:Int)+1) (by omega)]
    by_cases h1:s.Phases.length=0
    ·rw [l8 h1,h1];rfl
    ·rw [l9 h1,show ((s.Phases.length:Int)==0)=false by simp only [beq_eq_false_iff_ne];omega,l7]
     by_cases h2:6<s.Phases.length
     ·rw [l8 h2,show decide ((s.Phases.length:Int)>6)=true from l3 (by omega)];rfl
     ·rw [l9 h2,show decide ((s.Phases.length:Int)>6)=false from l4 (by omega),l7]
      cases Ps s.Offset 0 1099511627776
      ·rfl
      ·cases (s.Phases.any fun p=> !Ps p.Ticks 1 10000)
       ·cases (s.Phases.any fun p=> !Z3 m.Lanes.length 0 p.Green)<;>rfl
       ·rfl) (by
    unfold K0
    dsimp only
    rw [show decide ((m.Signals.length:Int)< (m.Signals.length:Int))=false from l4 (by omega)];rfl)
  unfold N3
  rw [h]
  cases I5 (Ct m) 0 m.Signals<;>rfl
theorem DQ (s:Signal)(hl:s.Phases.length≤1000000): ∀(r:List Phase) (i:Nat) (b:Bool),s.Phases.drop i=r→i≤s.Phases.length→loop (P8 s) (b,(i:Int))=some (b&& !(r.any fun p=> !Ps p.Ticks 1 10000)):=by
  intro r
  induction r with
  |nil=>
   intro i b hi hil
   have:=Ap hi
   refine J2 ?_
   unfold P8
   dsimp only
   rw [show decide ((i:Int)< (s.Phases.length:Int))=false from l4 (by omega)]
   simp
  |cons p r ih=>
   intro i b hi hil
   have hlt:=X0 hi
   have hs:P8 s (b,(i:Int))=some (.go (b&&Ps p.Ticks 1 10000,((i+1:Nat):Int))):=by
     unfold P8
     dsimp only
     rw [show decide ((i:Int)< (s.Phases.length:Int))=true from l3 (by omega),W9 hi,FX (n:=(i:Int)+1) (by omega)]
     cases b<;>rfl
   rw [U2 hs,ih (i+1) _ (Q5 hi) (by omega),List.any_cons]
   cases b<;>cases Ps p.Ticks 1 10000<;>simp
theorem BK (m:Map)(s:Signal)(hl:s.Phases.length≤1000000)(hg: ∀p∈s.Phases,p.Green.length≤1000000):loop (P7 m s) 0=some (if (s.Phases.any fun p=> !Z3 m.Lanes.length 0 p.Green)=true then .inr 11 else .inl ()):=by
  have h:=Do s.Phases (P7 m s) (fun _ p=>if Z3 m.Lanes.length 0 p.Green then none else some 11) (fun i p hp=>by
    have:=O2 hp
    unfold P7
    rw [show decide ((i:Int)< (s.Phases.length:Int))=true from l3 (by omega),G0 hp,l6,lA,Qn _ _ _ (hg p (lF hp)),lA,FX (n:=(i:Int)+1) (by omega)]
    cases Z3 (m.Lanes.length:Int) 0 p.Green<;>rfl) (by
    unfold P7
    rw [show decide ((s.Phases.length:Int)< (s.Phases.length:Int))=false from l4 (by omega)];rfl)
  rw [h]
  have key: ∀(l:List Phase) (i:Nat),FW (I5 (fun (_:Nat) (p:Phase)=>if Z3 (m.Lanes.length:Int) 0 p.Green=true then none else some (11:Int)) i l)=if (l.any fun p=> !Z3 m.Lanes.length 0 p.Green)=true then .inr 11 else .inl ():=by
    intro l
    induction l with
    |nil=>intro i;rfl
    |cons p r ih=>
     intro i
     unfold I5
     rw [List.any_cons]
     cases hq:Z3 (m.Lanes.length:Int) 0 p.Green
     ·rfl
     ·exact ih (i+1)
  rw [key]
end Go.Abs.Roadsz
/-! Loops over lists, as functions on lists. -/
namespace Go.Abs
open Go
section
variable {α β σ S τ:Type}
/-- What a loop over a list makes, with a state, and with a way out. -/
def Se (step:Nat→σ→α→Sum σ τ)(fin:σ→τ):Nat→σ→List α→τ
  |_,s,[]=>fin s
  |i,s,a::r=>match step i s a with
   | .inl s'=>Se step fin (i+1) s' r
   | .inr t=>t
theorem Xn {l:List α}{i:Nat}{a:α}{r:List α}(h:l.drop i=a::r):l[i]? =some a:=by
  have:=congrArg (fun z=>z[0]?) h
  simpa using this
theorem HE {F:S→Option (Stp S τ)}(pk:Nat→σ→S)(l:List α)(inv:Nat→σ→Prop)(step:Nat→σ→α→Sum σ τ)(fin:σ→τ){s0:σ}{S0:S}(hS:pk 0 s0=S0)(hi:inv 0 s0)
    (hF: ∀i a s,l[i]? =some a→inv i s→F (pk i s)=some (match step i s a with| .inl s'=> .go (pk (i+1) s')| .inr t=> .out t))
    (hI: ∀i a s s',l[i]? =some a→inv i s→step i s a= .inl s'→inv (i+1) s')
    (h0: ∀s,inv l.length s→F (pk l.length s)=some (.out (fin s))):loop F S0=some (Se step fin 0 s0 l):=by
  have key: ∀(r:List α) (i:Nat) (s:σ),l.drop i=r→i≤l.length→inv i s→loop F (pk i s)=some (Se step fin i s r):=by
    intro r
    induction r with
    |nil=>
     intro i s hi hil hv
     have:=Ap hi
     obtain rfl:i=l.length:=by omega
     exact J2 (h0 s hv)
    |cons a r ih=>
     intro i s hi hil hv
     have hlt:=X0 hi
     have ha:=Xn hi
     have hs:=hF i a s ha hv
     unfold Se
     cases h:step i s a with
     |inl s'=>rw [h]at hs;rw [U2 hs];exact ih (i+1) s' (Q5 hi) (by omega) (hI i a s s' ha hv h)
     |inr t=>rw [h]at hs;exact J2 hs
  rw [← hS]
  exact key l 0 s0 rfl (by omega) hi
/-- The same without a way out. -/
def Sf (step:Nat→σ→α→σ):Nat→σ→List α→σ
  |_,s,[]=>s
  |i,s,a::r=>Sf step (i+1) (step i s a) r
theorem Uf (step:Nat→σ→α→σ)(fin:σ→τ): ∀(l:List α) (i:Nat) (s:σ),Se (fun i s a=> .inl (step i s a)) fin i s l=fin (Sf step i s l)
  | [],_,_=>rfl
  |_::r,i,_=>Uf step fin r (i+1) _
theorem PV {F:S→Option (Stp S τ)}(pk:Nat→σ→S)(l:List α)(inv:Nat→σ→Prop)(step:Nat→σ→α→σ)(fin:σ→τ){s0:σ}{S0:S}(hS:pk 0 s0=S0)(hi:inv 0 s0)
    (hF: ∀i a s,l[i]? =some a→inv i s→F (pk i s)=some (.go (pk (i+1) (step i s a))))
    (hI: ∀i a s,l[i]? =some a→inv i s→inv (i+1) (step i s a))
    (h0: ∀s,inv l.length s→F (pk l.length s)=some (.out (fin s))):loop F S0=some (fin (Sf step 0 s0 l)):=by
  rw [← Uf step fin]
  exact HE pk l inv _ fin hS hi hF (fun i a s s' h1 h2 h3=>by cases h3;exact hI i a s h1 h2) h0
/-- The elements that a loop gathers. -/
def Ug (g:Nat→α→Option β):Nat→List α→List β
  |_,[]=> []
  |i,a::r=>match g i a with
   |some b=>b::Ug g (i+1) r
   |none=>Ug g (i+1) r
theorem Xo (g:Nat→α→Option β): ∀(l:List α) (i:Nat) (s:List β),Sf (fun i s a=>match g i a with|some b=>s++ [b]|none=>s) i s l=s++Ug g i l
  | [],_,s=>by simp [Sf,Ug]
  |a::r,i,s=>by
   unfold Sf Ug
   rw [Xo g r (i+1)]
   cases g i a<;>simp
theorem SL {F:S→Option (Stp S τ)}(pk:Nat→List β→S)(l:List α)(g:Nat→α→Option β)(fin:List β→τ){S0:S}(hS:pk 0 []=S0)
    (hF: ∀i a (s:List β),l[i]? =some a→s.length≤i→F (pk i s)=some (.go (pk (i+1) (match g i a with|some b=>s++ [b]|none=>s))))
    (h0: ∀s,F (pk l.length s)=some (.out (fin s))):loop F S0=some (fin (Ug g 0 l)):=by
  have:=PV pk l (fun i s=>s.length≤i) (fun i s a=>match g i a with|some b=>s++ [b]|none=>s) fin hS (by simp) hF (fun i a s _ hs=>by
    cases g i a<;>simp<;>omega) (fun s _=>h0 s)
  rw [this,Xo,lL]
/-- Is there one? -/
theorem Oh {F:Int→Option (Stp Int (Sum Unit β))}(l:List α)(p:α→Bool)(v:β)(hF: ∀(i:Nat) a,l[i]? =some a→F (i:Int)=some (if p a then .out (.inr v)else .go ((i+1:Nat):Int)))(h0:F (l.length:Int)=some (.out (.inl ()))):
    loop F 0=some (if l.any p then .inr v else .inl ()):=by
  have key: ∀(l:List α) (i:Nat),Se (fun _ _ a=>if p a then Sum.inr (Sum.inr v)else Sum.inl ()) (fun _=>(Sum.inl ():Sum Unit β)) i () l=if l.any p then .inr v else .inl ():=by
    intro l
    induction l with
    |nil=>intro i;rfl
    |cons a r ih=>
     intro i
     unfold Se
     rw [List.any_cons]
     cases h:p a
     ·exact ih (i+1)
     ·rfl
  rw [← key l 0]
  exact HE (F:=F) (σ:=Unit) (fun i _=>(i:Int)) l (fun _ _=>True) _ _ (s0:=()) rfl trivial (fun i a _ h _=>by rw [hF i a h];cases p a<;>rfl) (fun _ _ _ _ _ _ _=>trivial) (fun _ _=>h0)
end
theorem T6 {i:Nat}{n:Nat}(h:i<n):decide ((i:Int)< (n:Int))=true:=l3 (by omega)
theorem P4 (n:Nat):decide ((n:Int)< (n:Int))=false:=l4 (by omega)
theorem M6 {i:Nat}{n:Nat}(h:i<n)(hn:n≤1000000000000):J3 ((i:Int)+1)=((i+1:Nat):Int):=by rw [M9 (by omega)];omega
end Go.Abs
namespace Go.Abs.Roadsz
open Go Go.Abs
structure BearZ (m:Map):Prop where
  many:m.Zones.length≤1000000
  parts: ∀z∈m.Zones,z.Parts.length≤1000000
noncomputable def Dx (m:Map)(k:Int):Int:=((m.Lanes[k.toNat]?).map fun l=>MJ l.Curve_).getD 0
noncomputable def Mj (m:Map)(p:Part):Bool:=decide (p.From<0)||decide (p.From≥p.To)||decide (p.To>Dx m p.Lane_)||decide (p.Rank<0)||decide (p.Rank>100)
noncomputable def Ko (m:Map)(_:Nat)(z:Zone):Option Int:=
  if z.Parts.length<2 then some 6
  else if 6<z.Parts.length then some 8
  else if z.Signal_<0∨(m.Signals.length:Int)<z.Signal_ then some 2
  else if Z3 m.Lanes.length 0 (z.Parts.map (·.Lane_))=false then some 11
  else if z.Parts.any (Mj m)=true then some 2 else none
theorem Sg {m:Map}{k:Int}(h0:0≤k)(h1:k<m.Lanes.length): ∃l,m.Lanes[k.toNat]? =some l∧E6 m.Lanes k=some l:=by
  have hlt:k.toNat<m.Lanes.length:=by omega
  refine ⟨m.Lanes[k.toNat],lG hlt,?_⟩
  unfold E6
  rw [l8 h0,lG hlt]
theorem HF {m:Map}(B:Bear m){k:Int}(h0:0≤k)(h1:k<m.Lanes.length):T0 m k=some (Dx m k):=by
  obtain ⟨l,e1,e2⟩:=Sg h0 h1
  have:=PF (m:=m) e1 (B.pts l (lF e1)).1
  rw [show ((k.toNat:Nat):Int)=k by omega]at this
  rw [this,Dx,e1];rfl
theorem DR {m:Map}(B:Bear m){k:Int}(h0:0≤k)(h1:k<m.Lanes.length): ∃l,E6 m.Lanes k=some l∧Cq l.Curve_=some (Dx m k):=by
  obtain ⟨l,e1,e2⟩:=Sg h0 h1
  refine ⟨l,e2,?_⟩
  rw [Uy _ (B.pts l (lF e1)).1,Dx,e1];rfl
theorem DS {α β:Type}(f:α→β): ∀(l:List α) (i:Nat),Ug (fun _ a=>some (f a)) i l=l.map f
  | [],_=>rfl
  |a::r,i=>by rw [Ug,DS f r];rfl
theorem MN {z:Zone}{F:List Int×Int→Option (Stp (List Int×Int) (List Int))}(hl:z.Parts.length≤1000000)
    (hF: ∀x,F x=cond (decide (x.2< (z.Parts.length:Int))) ((E6 z.Parts x.2).bind fun v=>(Q8 x.1 [v.Lane_]).bind fun w=>some (.go (w,J3 (x.2+1)))) (some (.out x.1))):
    loop F ([],0)=some (z.Parts.map (·.Lane_)):=by
  rw [← DS (fun p:Part=>p.Lane_) z.Parts 0]
  refine SL (fun i s=>(s,(i:Int))) z.Parts (fun _ p=>some p.Lane_) id rfl (fun i a s ha hs=> ?_) (fun s=> ?_)
  ·have hi:=O2 ha
   rw [hF,T6 hi,G0 ha,l6,lA,Bm (by simp;omega),lA,M6 hi (by omega)]
  ·rw [hF,P4];rfl
theorem MO {m:Map}(B:Bear m)(Z:BearZ m):P2 ⟨m⟩=some ((I5 (Ko m) 0 m.Zones).getD 0):=by
  have hb:=B.lanes
  have h:=Do m.Zones (M4 ⟨m⟩) (Ko m) (fun i z hz=>by
    have hi:=O2 hz
    have hm:=Z.many
    have p1:=Z.parts z (lF hz)
    unfold M4 Ko
    dsimp only
    rw [T6 hi,G0 hz,l6,lA,MN p1 (F:=Au z) (fun x=>rfl),lA,Ti _ _ _ (by simpa using p1) (by omega) (by omega),lA,M6 hi (by omega)]
    by_cases h1:z.Parts.length<2
    ·rw [l8 h1,show decide ((z.Parts.length:Int)<2)=true from l3 (by omega)];rfl
    ·rw [l9 h1,show decide ((z.Parts.length:Int)<2)=false from l4 (by omega),l7]
     by_cases h2:6<z.Parts.length
     ·rw [l8 h2,show decide ((z.Parts.length:Int)>6)=true from l3 (by omega)];rfl
     ·rw [l9 h2,show decide ((z.Parts.length:Int)>6)=false from l4 (by omega),l7]
      by_cases h3:z.Signal_<0∨(m.Signals.length:Int)<z.Signal_
      ·rw [l8 h3,show ((decide (z.Signal_<0))||(decide (z.Signal_>(m.Signals.length:Int))))=true by simpa using h3];rfl
      ·rw [l9 h3,show ((decide (z.Signal_<0))||(decide (z.Signal_>(m.Signals.length:Int))))=false by rw [bF];simpa using h3,l7]
       cases h4:Z3 (m.Lanes.length:Int) 0 (z.Parts.map (·.Lane_))
       ·rfl
       ·rw [l9 (by decide)]
        have:=Oh (F:=M3 ⟨m⟩ z) z.Parts (Mj m) (2:Int) (fun j p hp=>by
          have hj:=O2 hp
          have hk:=Je h4 p.Lane_ (List.mem_map.2 ⟨p,lF hp,rfl⟩)
          unfold M3 Mj
          dsimp only
          rw [T6 hj,G0 hp,l6,lA,HF B hk.1 hk.2,M6 hj (by omega)]
          cases h5:(decide (p.From<0)||decide (p.From≥p.To))
          ·simp only [bE,l6,lA]
           cases (false||decide (p.To>Dx m p.Lane_)||decide (p.Rank<0)||decide (p.Rank>100))<;>rfl
          ·rfl) (by unfold M3;rw [P4];rfl)
        rw [this]
        cases z.Parts.any (Mj m)<;>rfl) (by
    unfold M4
    dsimp only
    rw [P4];rfl)
  unfold P2
  rw [h]
  cases I5 (Ko m) 0 m.Zones<;>rfl
theorem MP {m:Map}(B:Bear m)(Z:BearZ m){i:Nat}{z:Zone}(hz:m.Zones[i]? =some z):Df m z=some ((Ko m i z).getD 0):=by
  have hb:=B.lanes
  have p1:=Z.parts z (lF hz)
  unfold Df Ko
  rw [MN p1 (F:=Cr z) (fun x=>rfl),lA,Qn _ _ _ (by simpa using p1),lA]
  by_cases h1:z.Parts.length<2
  ·rw [l8 h1,show decide ((z.Parts.length:Int)<2)=true from l3 (by omega)];rfl
  ·rw [l9 h1,show decide ((z.Parts.length:Int)<2)=false from l4 (by omega),l7]
   by_cases h2:6<z.Parts.length
   ·rw [l8 h2,show decide ((z.Parts.length:Int)>6)=true from l3 (by omega)];rfl
   ·rw [l9 h2,show decide ((z.Parts.length:Int)>6)=false from l4 (by omega),l7]
    by_cases h3:z.Signal_<0∨(m.Signals.length:Int)<z.Signal_
    ·rw [l8 h3,show ((decide (z.Signal_<0))||(decide (z.Signal_>(m.Signals.length:Int))))=true by simpa using h3];rfl
    ·rw [l9 h3,show ((decide (z.Signal_<0))||(decide (z.Signal_>(m.Signals.length:Int))))=false by rw [bF];simpa using h3,l7]
     cases h4:Z3 (m.Lanes.length:Int) 0 (z.Parts.map (·.Lane_))
     ·rfl
     ·rw [l9 (by decide)]
      have:=Oh (F:=V4 m z) z.Parts (Mj m) (2:Int) (fun j p hp=>by
        have hj:=O2 hp
        have hk:=Je h4 p.Lane_ (List.mem_map.2 ⟨p,lF hp,rfl⟩)
        obtain ⟨l,e1,e2⟩:=DR B hk.1 hk.2
        unfold V4 Mj
        rw [T6 hj,G0 hp,l6,lA,e1,M6 hj (by omega)]
        cases h5:(decide (p.From<0)||decide (p.From≥p.To))
        ·simp only [bE,l6,lA,e2]
         cases (false||decide (p.To>Dx m p.Lane_)||decide (p.Rank<0)||decide (p.Rank>100))<;>rfl
        ·rfl) (by unfold V4;rw [P4];rfl)
      rw [this]
      cases z.Parts.any (Mj m)<;>rfl
structure BearW (m:Map):Prop where
  many:m.Works.length≤1000000
noncomputable def Lk (m:Map)(_:Nat)(w:Work):Option Int:=
  if w.Lane_<0∨(m.Lanes.length:Int)≤w.Lane_ then some 7
  else if (decide (w.From<0)||decide (w.From>w.To)||decide (w.To>Dx m w.Lane_)||decide (w.Begin<0)||decide (w.Begin≥w.End)||decide (w.End>1099511627776)|| !Ps w.Limit 0 ((m.Lanes[w.Lane_.toNat]?).map fun l=>(Mi l.Kind).1).get!)=true then some 2 else none
theorem MQ {m:Map}(B:Bear m)(W:BearW m):P3 ⟨m⟩=some ((I5 (Lk m) 0 m.Works).getD 0):=by
  have hb:=B.lanes
  have h:=Do m.Works (M5 ⟨m⟩) (Lk m) (fun i w hw=>by
    have hi:=O2 hw
    have hm:=W.many
    unfold M5 Lk
    dsimp only
    rw [T6 hi,G0 hw,l6,lA,M6 hi (by omega)]
    by_cases h1:w.Lane_<0∨(m.Lanes.length:Int)≤w.Lane_
    ·rw [l8 h1,show ((decide (w.Lane_<0))||(decide (w.Lane_≥(m.Lanes.length:Int))))=true by simpa using h1];rfl
    ·rw [l9 h1,show ((decide (w.Lane_<0))||(decide (w.Lane_≥(m.Lanes.length:Int))))=false by rw [bF];simpa using h1,l7]
     obtain ⟨l,e1,e2⟩:=Sg (m:=m) (k:=w.Lane_) (by omega) (by omega)
     rw [e2,lA,Zs,lA,HF B (by omega) (by omega),Jd,e1]
     simp only [lE,Option.get!_some]
     cases (decide (w.From<0)||decide (w.From>w.To))
     ·simp only [bE,l6,lA]
      cases (false||decide (w.To>Dx m w.Lane_)||decide (w.Begin<0)||decide (w.Begin≥w.End)||decide (w.End>1099511627776))
      ·simp only [bE,l6,lA]
       by_cases hq:Ps w.Limit 0 (Mi l.Kind).1=true<;>simp [hq]
      ·rfl
     ·rfl) (by
    unfold M5
    dsimp only
    rw [P4];rfl)
  unfold P3
  rw [h]
  cases I5 (Lk m) 0 m.Works<;>rfl
theorem MR {m:Map}(B:Bear m){i:Nat}(w:Work):Dg m w=some ((Lk m i w).getD 0):=by
  have hb:=B.lanes
  unfold Dg Lk
  by_cases h1:w.Lane_<0∨(m.Lanes.length:Int)≤w.Lane_
  ·rw [l8 h1,show ((decide (w.Lane_<0))||(decide (w.Lane_≥(m.Lanes.length:Int))))=true by simpa using h1];rfl
  ·rw [l9 h1,show ((decide (w.Lane_<0))||(decide (w.Lane_≥(m.Lanes.length:Int))))=false by rw [bF];simpa using h1,l7]
   obtain ⟨l,e1,e2⟩:=Sg (m:=m) (k:=w.Lane_) (by omega) (by omega)
   obtain ⟨l',e3,e4⟩:=DR B (k:=w.Lane_) (by omega) (by omega)
   rw [e2]at e3
   cases e3
   rw [e2,lA,Xk,lA,e4,Ka,e1]
   simp only [lE,Option.get!_some]
   cases (decide (w.From<0)||decide (w.From>w.To))
   ·simp only [bE,l6,lA]
    cases (false||decide (w.To>Dx m w.Lane_)||decide (w.Begin<0)||decide (w.Begin≥w.End)||decide (w.End>1099511627776))
    ·simp only [bE,l6,lA]
     by_cases hq:Ps w.Limit 0 (Mi l.Kind).1=true<;>simp [hq]
    ·rfl
   ·rfl
theorem GC {m:Map}(S:BearS m)(i:Nat){s:Signal}(hs:s∈m.Signals):Ay m s=some ((Ct m i s).getD 0):=by
  obtain ⟨p1,p2⟩:=S.phases s hs
  unfold Ay Ct
  rw [Ka,lA,show (0:Int)=((0:Nat):Int) from rfl,DQ s p1 s.Phases 0 _ rfl (by omega),lA]
  rw [show ((0:Nat):Int)=0 from rfl,BK m s p1 p2]
  by_cases h1:s.Phases.length=0
  ·rw [l8 h1,h1];rfl
  ·rw [l9 h1,show ((s.Phases.length:Int)==0)=false by simp only [beq_eq_false_iff_ne];omega,l7]
   by_cases h2:6<s.Phases.length
   ·rw [l8 h2,show decide ((s.Phases.length:Int)>6)=true from l3 (by omega)];rfl
   ·rw [l9 h2,show decide ((s.Phases.length:Int)>6)=false from l4 (by omega),l7]
    cases Ps s.Offset 0 1099511627776
    ·rfl
    ·cases (s.Phases.any fun p=> !Ps p.Ticks 1 10000)
     ·cases (s.Phases.any fun p=> !Z3 m.Lanes.length 0 p.Green)<;>rfl
     ·rfl
/-- All lists of a map are of bearable lengths. -/
structure BearM (m:Map):Prop where
  toBear:Bear m
  toBearS:BearS m
  toBearZ:BearZ m
  toBearW:BearW m
theorem BearM.lanes {m:Map}(B:BearM m):m.Lanes.length≤1000000:=B.toBear.lanes
noncomputable def Mv (m:Map):Int:=
  if Ps m.Version 0 1099511627776=false then 2
  else if m.Lanes.length=0 then 6
  else if 12<m.Lanes.length∨12<m.Zones.length∨4<m.Signals.length∨8<m.Works.length then 8
  else ((I5 (laneE m.Lanes.length) 0 m.Lanes).or ((I5 (Hb m) 0 m.Lanes).or ((I5 (Ct m) 0 m.Signals).or ((I5 (Ko m) 0 m.Zones).or (I5 (Lk m) 0 m.Works))))).getD 0
theorem V5 {α:Type}{g:Nat→α→Option Int}(h: ∀i a e,g i a=some e→e≠0): ∀{l:List α} {i:Nat} {e:Int},I5 g i l=some e→e≠0
  | [],_,_,q=>by cases q
  |a::r,i,e,q=>by
   unfold I5 at q
   cases hg:g i a with
   |some e'=>rw [hg]at q;cases q;exact h i a e hg
   |none=>rw [hg]at q;exact V5 h q
theorem Sh {m:Map}{i:Nat}{z:Zone}{e:Int}(h:Ko m i z=some e):e≠0:=by
  unfold Ko at h
  repeat' split at h
  all_goals first|(cases h;decide)|cases h
theorem Mk {m:Map}{i:Nat}{z:Signal}{e:Int}(h:Ct m i z=some e):e≠0:=by
  unfold Ct at h
  repeat' split at h
  all_goals first|(cases h;decide)|cases h
theorem Xp {m:Map}{i:Nat}{z:Work}{e:Int}(h:Lk m i z=some e):e≠0:=by
  unfold Lk at h
  repeat' split at h
  all_goals first|(cases h;decide)|cases h
theorem Xq {m:Map}{i:Nat}{z:Lane}{e:Int}(h:Hb m i z=some e):e≠0:=V5 (fun _ _ _=>IL) h
/-- A loop that goes on as long as there is no error. -/
theorem MS {α:Type}{F:Int×Int→Option (Stp (Int×Int) Int)}(l:List α)(g:Nat→α→Option Int)(hg: ∀i a e,g i a=some e→e≠0)(hl:l.length≤1000000)
    (hF: ∀(i:Nat) a,l[i]? =some a→F (0,(i:Int))=some (.go ((g i a).getD 0,((i+1:Nat):Int)))) (h0: ∀(i:Nat) (e:Int),e≠0→F (e,(i:Int))=some (.out e)) (h1:F (0,(l.length:Int))=some (.out 0)) (e0:Option Int) (he: ∀e,e0=some e→e≠0):
    loop F (e0.getD 0,0)=some ((e0.or (I5 g 0 l)).getD 0):=by
  have key: ∀(r:List α) (i:Nat),l.drop i=r→i≤l.length→loop F (0,(i:Int))=some ((I5 g i r).getD 0):=by
    intro r
    induction r with
    |nil=>
     intro i hi hil
     have:=Ap hi
     obtain rfl:i=l.length:=by omega
     exact J2 h1
    |cons a r ih=>
     intro i hi hil
     have hlt:=X0 hi
     have hs:=hF i a (Xn hi)
     rw [U2 hs]
     unfold I5
     cases h:g i a with
     |some e=>exact J2 (h0 (i+1) e (hg i a e h))
     |none=>exact ih (i+1) (Q5 hi) (by omega)
  cases e0 with
  |some e=>exact J2 (h0 0 e (he e rfl))
  |none=>exact key l 0 rfl (by omega)
theorem Oi {m:Map}(B:BearM m):Ef m=some (Mv m):=by
  have hb:=B.lanes
  unfold Ef Mv
  rw [Ka,lA]
  cases Ps m.Version 0 1099511627776
  ·rfl
  ·simp only [bD,l7,Bool.true_eq_false,if_false]
   by_cases h1:m.Lanes.length=0
   ·rw [l8 h1,h1];rfl
   ·rw [l9 h1,show ((m.Lanes.length:Int)==0)=false by simp only [beq_eq_false_iff_ne];omega,l7]
    by_cases h2:12<m.Lanes.length∨12<m.Zones.length∨4<m.Signals.length∨8<m.Works.length
    ·rw [l8 h2,show ((((decide ((m.Lanes.length:Int)>12))||(decide ((m.Zones.length:Int)>12)))||(decide ((m.Signals.length:Int)>4)))||(decide ((m.Works.length:Int)>8)))=true by simp;omega];rfl
    ·rw [l9 h2,show ((((decide ((m.Lanes.length:Int)>12))||(decide ((m.Zones.length:Int)>12)))||(decide ((m.Signals.length:Int)>4)))||(decide ((m.Works.length:Int)>8)))=false by simp;omega,l7]
     rw [DM B.toBear]
     cases H:I5 (laneE m.Lanes.length) 0 m.Lanes with
     |some e=>rfl
     |none=>
      have n1: ∀e,I5 (Hb m) 0 m.Lanes=some e→e≠0:=fun e h=>V5 (fun _ _ _=>Xq) h
      have n2: ∀e,(I5 (Hb m) 0 m.Lanes).or (I5 (Ct m) 0 m.Signals)=some e→e≠0:=fun e h=>by
        rcases Option.or_eq_some_iff.1 h with h|⟨_,h⟩
        ·exact n1 e h
        ·exact V5 (fun _ _ _=>Mk) h
      have n3: ∀e,((I5 (Hb m) 0 m.Lanes).or (I5 (Ct m) 0 m.Signals)).or (I5 (Ko m) 0 m.Zones)=some e→e≠0:=fun e h=>by
        rcases Option.or_eq_some_iff.1 h with h|⟨_,h⟩
        ·exact n2 e h
        ·exact V5 (fun _ _ _=>Sh) h
      simp only [FW,thenS,Option.none_or]
      rw [(Zw B.toBear H).2,lA]
      rw [MS m.Signals (Ct m) (fun _ _ _=>Mk) B.toBearS.many (fun i a ha=>by
       have hi:=O2 ha
       have hm:=B.toBearS.many
       unfold Bw
       dsimp only
       rw [T6 hi,G0 ha,bA,show ((0:Int)==0)=true from rfl,l6,lA,GC B.toBearS i (lF ha),M6 hi (by omega)];rfl) (fun i e he=>by
       unfold Bw
       dsimp only
       rw [show (e==0)=false by simpa using he,Bool.and_false];rfl) (by unfold Bw;dsimp only;rw [P4];rfl) _ n1,lA]
      rw [MS m.Zones (Ko m) (fun _ _ _=>Sh) B.toBearZ.many (fun i a ha=>by
       have hi:=O2 ha
       have hm:=B.toBearZ.many
       unfold Bv
       dsimp only
       rw [T6 hi,G0 ha,bA,show ((0:Int)==0)=true from rfl,l6,lA,MP B.toBear B.toBearZ ha,M6 hi (by omega)];rfl) (fun i e he=>by
       unfold Bv
       dsimp only
       rw [show (e==0)=false by simpa using he,Bool.and_false];rfl) (by unfold Bv;dsimp only;rw [P4];rfl) _ n2,lA]
      rw [MS m.Works (Lk m) (fun _ _ _=>Xp) B.toBearW.many (fun i a ha=>by
       have hi:=O2 ha
       have hm:=B.toBearW.many
       unfold Bu
       dsimp only
       rw [T6 hi,G0 ha,bA,show ((0:Int)==0)=true from rfl,l6,lA,MR B.toBear (i:=i) a,M6 hi (by omega)];rfl) (fun i e he=>by
       unfold Bu
       dsimp only
       rw [show (e==0)=false by simpa using he,Bool.and_false];rfl) (by unfold Bu;dsimp only;rw [P4];rfl) _ n3,lA]
      rw [Option.or_assoc,Option.or_assoc]
theorem Oj {m:Map}(B:BearM m):Q3 m=some (Mv m):=by
  have hb:=B.lanes
  have s0:J7 m 0=(T7 ⟨m⟩).bind fun v2=>cond (v2 !=0) (some (.out (.inr v2))) (some (.go 1)):=rfl
  have s1:J7 m 1=(P1 ⟨m⟩).bind fun v2=>cond (v2 !=0) (some (.out (.inr v2))) (some (.go 2)):=rfl
  have s2:J7 m 2=(O4 ⟨m⟩).bind fun v2=>cond (v2 !=0) (some (.out (.inr v2))) (some (.go 3)):=rfl
  have s3:J7 m 3=(N3 ⟨m⟩).bind fun v2=>cond (v2 !=0) (some (.out (.inr v2))) (some (.go 4)):=rfl
  have s4:J7 m 4=(P2 ⟨m⟩).bind fun v2=>cond (v2 !=0) (some (.out (.inr v2))) (some (.go 5)):=rfl
  have s5:J7 m 5=(P3 ⟨m⟩).bind fun v2=>cond (v2 !=0) (some (.out (.inr v2))) (some (.go 6)):=rfl
  have s6:J7 m 6=some (.out (.inl ())):=rfl
  have RG: ∀(i j:Int) (e:Option Int) (X:Option Int),(∀e',e=some e'→e'≠0)→X=some (e.getD 0)→J7 m i=X.bind (fun v2=>cond (v2 !=0) (some (.out (.inr v2))) (some (.go j)))→loop (J7 m) i=match e with|some e'=>some (.inr e')|none=>loop (J7 m) j:=by
    intro i j e X he hX hs
    subst hX
    rw [lA]at hs
    cases e with
    |none=>exact U2 hs
    |some e'=>
     rw [Option.getD_some,show (e' !=0)=true by simpa using he e' rfl]at hs
     exact J2 hs
  unfold Q3 Mv
  have hnum:T7 ⟨m⟩=some ((if Ps m.Version 0 1099511627776=false then some 2 else if m.Lanes.length=0 then some 6 else if 12<m.Lanes.length∨12<m.Zones.length∨4<m.Signals.length∨8<m.Works.length then some 8 else none:Option Int).getD 0):=by
    unfold T7
    dsimp only
    rw [Jd,lA]
    cases Ps m.Version 0 1099511627776
    ·rfl
    ·simp only [bD,l7,Bool.true_eq_false,if_false]
     by_cases h1:m.Lanes.length=0
     ·rw [l8 h1,h1];rfl
     ·rw [l9 h1,show ((m.Lanes.length:Int)==0)=false by simp only [beq_eq_false_iff_ne];omega,l7]
      by_cases h2:12<m.Lanes.length∨12<m.Zones.length∨4<m.Signals.length∨8<m.Works.length
      ·rw [l8 h2,show ((((decide ((m.Lanes.length:Int)>12))||(decide ((m.Zones.length:Int)>12)))||(decide ((m.Signals.length:Int)>4)))||(decide ((m.Works.length:Int)>8)))=true by simp;omega];rfl
      ·rw [l9 h2,show ((((decide ((m.Lanes.length:Int)>12))||(decide ((m.Zones.length:Int)>12)))||(decide ((m.Signals.length:Int)>4)))||(decide ((m.Works.length:Int)>8)))=false by simp;omega];rfl
  rw [RG 0 1 _ _ (by (repeat' split);all_goals (intro e' h;first|(cases h;decide)|cases h)) hnum s0]
  by_cases q1:Ps m.Version 0 1099511627776=false
  ·rw [l8 q1,l8 q1];rfl
  ·rw [l9 q1,l9 q1]
   by_cases q2:m.Lanes.length=0
   ·rw [l8 q2,l8 q2];rfl
   ·rw [l9 q2,l9 q2]
    by_cases q3:12<m.Lanes.length∨12<m.Zones.length∨4<m.Signals.length∨8<m.Works.length
    ·rw [l8 q3,l8 q3];rfl
    ·rw [l9 q3,l9 q3]
     dsimp only
     rw [RG 1 2 _ _ (fun e' h=>V5 (fun _ _ _=>Xl) h) (MK B.toBear) s1]
     cases H:I5 (laneE m.Lanes.length) 0 m.Lanes with
     |some e=>rfl
     |none=>
      dsimp only
      rw [RG 2 3 _ _ (fun e' h=>V5 (fun _ _ _=>Xq) h) (Zw B.toBear H).1 s2]
      cases I5 (Hb m) 0 m.Lanes with
      |some e=>rfl
      |none=>
       dsimp only
       rw [RG 3 4 _ _ (fun e' h=>V5 (fun _ _ _=>Mk) h) (GB B.toBear B.toBearS) s3]
       cases I5 (Ct m) 0 m.Signals with
       |some e=>rfl
       |none=>
        dsimp only
        rw [RG 4 5 _ _ (fun e' h=>V5 (fun _ _ _=>Sh) h) (MO B.toBear B.toBearZ) s4]
        cases I5 (Ko m) 0 m.Zones with
        |some e=>rfl
        |none=>
         dsimp only
         rw [RG 5 6 _ _ (fun e' h=>V5 (fun _ _ _=>Xp) h) (MQ B.toBear B.toBearW) s5]
         cases I5 (Lk m) 0 m.Works with
         |some e=>rfl
         |none=>dsimp only;rw [J2 s6];rfl
/-- What a valid map is. -/
structure ValR (m:Map):Prop where
  ver:0≤m.Version∧m.Version≤1099511627776
  pos:0<m.Lanes.length
  lanes:m.Lanes.length≤12
  zones:m.Zones.length≤12
  signals:m.Signals.length≤4
  works:m.Works.length≤8
  laneE:I5 (laneE m.Lanes.length) 0 m.Lanes=none
  Hb:I5 (Hb m) 0 m.Lanes=none
  Ct:I5 (Ct m) 0 m.Signals=none
  Ko:I5 (Ko m) 0 m.Zones=none
  Lk:I5 (Lk m) 0 m.Works=none
theorem IN {α:Type}{g:Nat→α→Option Int}{l:List α}(h: ∀i a e,g i a=some e→e≠0)(h0:(I5 g 0 l).getD 0=0):I5 g 0 l=none:=by
  cases q:I5 g 0 l with
  |none=>rfl
  |some e=>rw [q]at h0;exact absurd h0 (V5 h q)
theorem chkR_zero {m:Map}:Mv m=0↔ValR m:=by
  unfold Mv
  constructor
  ·intro h
   split at h
   ·cases h
   ·rename_i h1
    split at h
    ·cases h
    ·rename_i h2
     split at h
     ·cases h
     ·rename_i h3
      simp only [Ps,Bool.not_eq_false,bB,l5]at h1
      have key: ∀{o r:Option Int},(∀e,o=some e→e≠0)→(o.or r).getD 0=0→o=none∧r.getD 0=0:=by
        intro o r ho hr
        cases o with
        |none=>exact ⟨rfl,hr⟩
        |some e=>exact absurd hr (ho e rfl)
      obtain ⟨a1,h⟩:=key (fun e h=>V5 (fun _ _ _=>Xl) h) h
      obtain ⟨a2,h⟩:=key (fun e h=>V5 (fun _ _ _=>Xq) h) h
      obtain ⟨a3,h⟩:=key (fun e h=>V5 (fun _ _ _=>Mk) h) h
      obtain ⟨a4,h⟩:=key (fun e h=>V5 (fun _ _ _=>Sh) h) h
      exact ⟨h1,by omega,by omega,by omega,by omega,by omega,a1,a2,a3,a4,IN (fun _ _ _=>Xp) h⟩
  ·rintro ⟨h1,h2,h3,h4,h5,h6,a1,a2,a3,a4,a5⟩
   rw [l9 (by simp only [Ps,Bool.not_eq_false,bB,l5];exact h1),l9 (by omega),l9 (by omega),a1,a2,a3,a4,a5];rfl
section
variable {m:Map}
theorem ValR.laneOK (V:ValR m){i:Nat}{l:Lane}(h:m.Lanes[i]? =some l):LaneOK m.Lanes.length i l:=Og V.laneE h
theorem ValR.next (V:ValR m){i:Nat}{l:Lane}(h:m.Lanes[i]? =some l){k:Int}(hk:k∈l.Next):(i:Int)<k∧k<m.Lanes.length:=by
  have:=Je (V.laneOK h).next k hk
  omega
end
/-- The lanes in which a lane goes on. -/
def nextOf (m:Map)(a:Nat):List Int:=((m.Lanes[a]?).map (·.Next)).getD []
theorem ValR.nextOf {m:Map}(V:ValR m){a:Nat}{k:Int}(hk:k∈Roadsz.nextOf m a):(a:Int)<k∧k<m.Lanes.length:=by
  unfold Roadsz.nextOf at hk
  cases h:m.Lanes[a]? with
  |none=>rw [h]at hk;cases hk
  |some l=>rw [h]at hk;exact V.next h hk
def MT (m:Map)(b:Int):Nat→Nat→Bool
  |0,_=>false
  |n+1,a=>(nextOf m a).any fun k=>k==b||MT m b n k.toNat
/-- Does a lane lead to another one? -/
def RF (m:Map)(a:Nat)(b:Int):Bool:=MT m b m.Lanes.length a
/-- What is known of the sets of the lanes from a number on. -/
structure Reach (m:Map)(i:Nat)(l:List Nat):Prop where
  len:l.length=12
  small: ∀(a x:Nat),l[a]? =some x→x<2^32
  zero: ∀(a:Nat),a<i→l[a]? =some 0
  bits: ∀(a x:Nat),i≤a→a<m.Lanes.length→l[a]? =some x→∀b:Nat,x.testBit b=RF m a (b:Int)
theorem Reach.get {m:Map}{i:Nat}{l:List Nat}(R:Reach m i l){a:Nat}(h:a<12): ∃x,l[a]? =some x∧x<2^32:=by
  have:=R.len
  exact ⟨l[a],lG (by omega),R.small a _ (lG (by omega))⟩
structure ZoneOK (m:Map)(z:Zone):Prop where
  two:2≤z.Parts.length
  six:z.Parts.length≤6
  sig:0≤z.Signal_∧z.Signal_≤m.Signals.length
  rise:Z3 m.Lanes.length 0 (z.Parts.map (·.Lane_))=true
  part: ∀p∈z.Parts,0≤p.From∧p.From<p.To∧p.To≤Dx m p.Lane_∧0≤p.Rank∧p.Rank≤100
theorem ZoneOK.lane {m:Map}{z:Zone}(O:ZoneOK m z){p:Part}(hp:p∈z.Parts):0≤p.Lane_∧p.Lane_<m.Lanes.length:=Je O.rise p.Lane_ (List.mem_map.2 ⟨p,hp,rfl⟩)
def Ml (m:Map):Bool:= !(decide (m.Lanes.length>14)||decide (m.Zones.length>14)||decide (m.Signals.length>6)||decide (m.Works.length>10))&& !(m.Lanes.any fun l=>decide (l.Curve_.Pts.length>18)||decide (l.Next.length>5))&& !(m.Zones.any fun z=>decide (z.Parts.length>8))&& !(m.Signals.any fun s=>decide (s.Phases.length>8)||s.Phases.any fun p=>decide (p.Green.length>14))
theorem DT (m:Map):Ja m=some (Ml m):=by
  unfold Ja Ml
  by_cases h:m.Lanes.length>14∨m.Zones.length>14∨m.Signals.length>6∨m.Works.length>10
  ·rw [show (((decide ((m.Lanes.length:Int)>14))||(decide ((m.Zones.length:Int)>14))||(decide ((m.Signals.length:Int)>6)))||(decide ((m.Works.length:Int)>10)))=true by simp;omega,show ((((decide (m.Lanes.length>14))||(decide (m.Zones.length>14)))||(decide (m.Signals.length>6)))||(decide (m.Works.length>10)))=true by simp;omega]
   rfl
  ·rw [show (((decide ((m.Lanes.length:Int)>14))||(decide ((m.Zones.length:Int)>14))||(decide ((m.Signals.length:Int)>6)))||(decide ((m.Works.length:Int)>10)))=false by simp;omega,show ((((decide (m.Lanes.length>14))||(decide (m.Zones.length>14)))||(decide (m.Signals.length>6)))||(decide (m.Works.length>10)))=false by simp;omega,l7]
   rw [Oh m.Lanes (fun l=>decide (l.Curve_.Pts.length>18)||decide (l.Next.length>5)) false (fun i l hl=>by
    have hi:=O2 hl
    unfold Gs
    rw [T6 hi,G0 hl,l6,lA,M6 hi (by omega)]
    by_cases h1:l.Curve_.Pts.length>18
    ·rw [show decide ((l.Curve_.Pts.length:Int)>18)=true from l3 (by omega),show decide (l.Curve_.Pts.length>18)=true from l3 h1];rfl
    ·rw [show decide ((l.Curve_.Pts.length:Int)>18)=false from l4 (by omega),show decide (l.Curve_.Pts.length>18)=false from l4 h1]
     simp only [bE,l6,lA,Bool.false_or]
     by_cases h2:l.Next.length>5
     ·rw [show decide ((l.Next.length:Int)>5)=true from l3 (by omega),show decide (l.Next.length>5)=true from l3 h2];rfl
     ·rw [show decide ((l.Next.length:Int)>5)=false from l4 (by omega),show decide (l.Next.length>5)=false from l4 h2];rfl) (by unfold Gs;rw [P4];rfl)]
   cases m.Lanes.any fun l=>decide (l.Curve_.Pts.length>18)||decide (l.Next.length>5)
   ·simp only [Bool.false_eq_true,if_false,thenS,bE,bA]
    rw [Oh m.Zones (fun z=>decide (z.Parts.length>8)) false (fun i z hz=>by
     have hi:=O2 hz
     unfold Gr
     rw [T6 hi,G0 hz,l6,lA,M6 hi (by omega)]
     by_cases h1:z.Parts.length>8
     ·rw [show decide ((z.Parts.length:Int)>8)=true from l3 (by omega),show decide (z.Parts.length>8)=true from l3 h1];rfl
     ·rw [show decide ((z.Parts.length:Int)>8)=false from l4 (by omega),show decide (z.Parts.length>8)=false from l4 h1];rfl) (by unfold Gr;rw [P4];rfl)]
    cases m.Zones.any fun z=>decide (z.Parts.length>8)
    ·simp only [Bool.false_eq_true,if_false,bE,bA]
     rw [Oh m.Signals (fun s=>decide (s.Phases.length>8)||s.Phases.any fun p=>decide (p.Green.length>14)) false (fun i s hs=>by
      have hi:=O2 hs
      unfold Gq
      rw [T6 hi,G0 hs,l6,lA,M6 hi (by omega)]
      by_cases h1:s.Phases.length>8
      ·rw [show decide ((s.Phases.length:Int)>8)=true from l3 (by omega),show decide (s.Phases.length>8)=true from l3 h1];rfl
      ·rw [show decide ((s.Phases.length:Int)>8)=false from l4 (by omega),show decide (s.Phases.length>8)=false from l4 h1,l7,Bool.false_or]
       rw [Oh s.Phases (fun p=>decide (p.Green.length>14)) false (fun j p hp=>by
        have hj:=O2 hp
        unfold Gp
        rw [G0 hs,lA,T6 hj,l6,lA,G0 hp,lA,M6 hj (by omega)]
        by_cases h1:p.Green.length>14
        ·rw [show decide ((p.Green.length:Int)>14)=true from l3 (by omega),show decide (p.Green.length>14)=true from l3 h1];rfl
        ·rw [show decide ((p.Green.length:Int)>14)=false from l4 (by omega),show decide (p.Green.length>14)=false from l4 h1];rfl) (by unfold Gp;rw [G0 hs,lA,P4];rfl)]
       cases s.Phases.any fun p=>decide (p.Green.length>14)<;>rfl) (by unfold Gq;rw [P4];rfl)]
     cases m.Signals.any fun s=>decide (s.Phases.length>8)||s.Phases.any fun p=>decide (p.Green.length>14)<;>rfl
    ·rfl
   ·rfl
theorem Xr {m:Map}(h:Ml m=true):BearM m:=by
  unfold Ml at h
  simp only [bB,Bool.not_eq_true',Bool.or_eq_false_iff,decide_eq_false_iff_not,List.any_eq_false,bC,l5,not_or,Nat.not_lt,gt_iff_lt,List.any_eq_true,not_exists,not_and]at h
  obtain ⟨⟨⟨⟨⟨⟨h1,h2⟩,h3⟩,h4⟩,h5⟩,h6⟩,h7⟩:=h
  refine ⟨⟨by omega,fun l hl=> ?_⟩,⟨by omega,fun s hs=>⟨?_,fun p hp=> ?_⟩⟩,⟨by omega,fun z hz=> ?_⟩,⟨by omega⟩⟩
  ·have:=h5 l hl;omega
  ·have:=(h7 s hs).1;omega
  ·have:=(h7 s hs).2 p hp;omega
  ·have:=h6 z hz;omega
theorem DU:Ax=some true:=law03_awake_le _ (by decide+kernel)
noncomputable def PH (p q:Spot):Int:=rt (I0 (L9 p q) (L9 p q))
theorem Good.inv {last:Option CurveVector}{p q:Spot}{r:List Spot}(h:Good last (p::q::r)):PH p q*PH p q=I0 (L9 p q) (L9 p q)∧1000≤PH p q∧PH p q≤1048576∧(∀u,last=some u→0<I0 u (L9 p q))∧Good (some (L9 p q)) (q::r):=by
  cases h with|cons _ _ _ _ h1 h2 h3 h4 h=>exact ⟨h1,h2,h3,h4,h⟩
def RG (c:CurveCorridor):Ref01Stripe:=⟨c.piece.p,vs c.piece.v,c.piece.l,c.half,c.ends.1,c.ends.2⟩
def R2 (c d:CurveCorridor):Int:=(c.piece.l+d.piece.l+c.half+d.half)* (c.piece.l+d.piece.l+c.half+d.half)
end Go.Abs.Roadsz
namespace Go.Abs
end Go.Abs
namespace Go.Abs.Roadsz
open Go Go.Abs
/-! ### How long lanes are -/
theorem MU: ∀(l:List Int) (s:Int),(∀x∈l,0≤x∧x≤1048576)→0≤s→s+1048576*l.length≤9000000000000000000→s≤Qm s l∧Qm s l≤s+1048576*l.length
  | [],s,_,_,_=>by simp [Qm]
  |a::r,s,h,h0,h1=>by
   have ha:=h a (by simp)
   simp only [lJ]at h1 ⊢
   rw [Qm,M9 (by omega)]
   have:=MU r (s+a) (fun x hx=>h x (by simp [hx])) (by omega) (by omega)
   omega
theorem MV: ∀{l:List Spot} {last:Option CurveVector},Good last l→∀x∈Pf l,1000≤x∧x≤1048576:=by
  intro l last h
  induction h with
  |one last p=>intro x hx;simp [Pf]at hx
  |cons last p q r h1 h2 h3 h4 h ih=>
   intro x hx
   rw [Lj,lP]at hx
   rcases hx with rfl|hx
   ·exact ⟨h2,h3⟩
   ·exact ih x hx
theorem PI {c:Curve}(h:X7 c.Pts=0):1000≤MJ c∧MJ c≤16777216:=by
  have V:=checkM_zero.1 h
  unfold MJ Fk
  rw [l8 h]
  have h16:=V.most
  have h2:=V.two
  have hm:=MV V.good
  cases hp:c.Pts with
  |nil=>rw [hp]at h2;simp at h2
  |cons p r=>
   rw [hp]at hm h16 h2
   cases r with
   |nil=>simp at h2
   |cons q r=>
    simp only [lJ]at h16
    rw [Lj]at hm ⊢
    have ha:=hm _ (List.mem_cons_self)
    have hl:=Kn r q
    rw [Qm,M9 (by omega),Int.zero_add]
    have:=MU (Pf (q::r)) (rt (I0 (L9 p q) (L9 p q))) (fun x hx=>by have:=hm x (List.mem_cons_of_mem _ hx);omega) (by omega) (by rw [hl];omega)
    rw [hl]at this
    omega
theorem ValR.long {m:Map}(V:ValR m){k:Int}(h0:0≤k)(h1:k<m.Lanes.length):1000≤Dx m k∧Dx m k≤16777216:=by
  obtain ⟨l,e1,e2⟩:=Sg h0 h1
  unfold Dx
  rw [e1]
  exact PI (V.laneOK e1).curve
/-! ### Routes -/
end Go.Abs.Roadsz
namespace Go.Abs
open Go
section
variable {α β σ τ:Type}
end
end Go.Abs
namespace Go.Abs.Roadsz
open Go Go.Abs
end Go.Abs.Roadsz
namespace Go.Abs
open Go
theorem Zx {α:Type}: ∀(l:List α) (i:Nat) (s:List α),Sf (fun _ s a=>s++ [a]) i s l=s++l
  | [],_,s=>by simp [Sf]
  |a::r,i,s=>by rw [Sf,Zx r];simp
theorem Gz {α:Type}{l:List α}(h:l.length≤1000000):Q8 ([]:List α) l=some l:=Bm (by simp;omega)
/-- A loop that copies a list, in a state. -/
theorem Uh {α S τ:Type}{F:S→Option (Stp S τ)}(pk:Nat→List α→S)(l:List α)(fin:List α→τ){S0:S}(hS:pk 0 []=S0)
    (hF: ∀(i:Nat) a (s:List α),l[i]? =some a→s.length≤i→F (pk i s)=some (.go (pk (i+1) (s++ [a])))) (h0: ∀s,F (pk l.length s)=some (.out (fin s))):loop F S0=some (fin l):=by
  have:=PV pk l (fun i s=>s.length≤i) (fun _ s a=>s++ [a]) fin hS (by simp) hF (fun i a s _ hs=>by simp;omega) (fun s _=>h0 s)
  rw [this,Zx,lL]
end Go.Abs
namespace Go.Abs.Roadsz
open Go Go.Abs
theorem HG {l:List Int}(h:l.length≤1000000):Hj l=some l:=by unfold Hj;rw [Gz h];rfl
theorem Xs {l:Lane}(h1:l.Curve_.Pts.length≤1000000)(h2:l.Next.length≤1000000):Dm l=some l:=by
  unfold Dm Mc
  rw [Gz h1,lA,lA,HG h2];rfl
theorem Xt {z:Zone}(h:z.Parts.length≤1000000):Dn z=some z:=by unfold Dn;rw [Gz h];rfl
theorem Si {s:Signal}(h1:s.Phases.length≤1000000)(h2: ∀p∈s.Phases,p.Green.length≤1000000):Al s=some s:=by
  unfold Al
  rw [Uh (fun i l=>(l,(i:Int))) s.Phases id (S0:=([],0)) rfl (fun i p l h hl=>by
   have hi:=O2 h
   unfold Y9
   dsimp only
   rw [T6 hi,G0 h,l6,lA,lA,HG (h2 p (lF h)),lA,Bm (by simp;omega),lA,M6 hi (by omega)]) (fun l=>by unfold Y9;rw [P4];rfl)]
  rfl
theorem HH {m:Map}(B:BearM m):Fl m=some m:=by
  have b1:=B.toBear.lanes
  have b2:=B.toBearZ.many
  have b3:=B.toBearS.many
  unfold Fl
  rw [Gz B.toBearW.many,lA]
  rw [Uh (fun i l=>((i:Int),⟨m.Version,l,[],[],m.Works⟩)) m.Lanes (fun l=>⟨m.Version,l,[],[],m.Works⟩) (S0:=((0:Int),(⟨m.Version,[],[],[],m.Works⟩:Map))) rfl (fun i p l h hl=>by
   have hi:=O2 h
   obtain ⟨p1,p2⟩:=B.toBear.pts p (lF h)
   unfold Fd
   dsimp only
   rw [T6 hi,G0 h,l6,lA,Xs p1 p2,lA,Bm (by simp;omega),lA,M6 hi (by omega)]) (fun l=>by unfold Fd;rw [P4];rfl),lA]
  rw [Uh (fun i l=>((i:Int),⟨m.Version,m.Lanes,l,[],m.Works⟩)) m.Zones (fun l=>⟨m.Version,m.Lanes,l,[],m.Works⟩) (S0:=((0:Int),(⟨m.Version,m.Lanes,[],[],m.Works⟩:Map))) rfl (fun i p l h hl=>by
   have hi:=O2 h
   have p1:=B.toBearZ.parts p (lF h)
   unfold Fc
   dsimp only
   rw [T6 hi,G0 h,l6,lA,Xt p1,lA,Bm (by simp;omega),lA,M6 hi (by omega)]) (fun l=>by unfold Fc;rw [P4];rfl),lA]
  rw [Uh (fun i l=>((i:Int),⟨m.Version,m.Lanes,m.Zones,l,m.Works⟩)) m.Signals (fun l=>⟨m.Version,m.Lanes,m.Zones,l,m.Works⟩) (S0:=((0:Int),(⟨m.Version,m.Lanes,m.Zones,[],m.Works⟩:Map))) rfl (fun i p l h hl=>by
   have hi:=O2 h
   obtain ⟨p1,p2⟩:=B.toBearS.phases p (lF h)
   unfold Fb
   dsimp only
   rw [T6 hi,G0 h,l6,lA,Si p1 p2,lA,Bm (by simp;omega),lA,M6 hi (by omega)]) (fun l=>by unfold Fb;rw [P4];rfl)]
  rfl
/-! ### What is the same as itself -/
theorem Pu {l:List Int}(h:l.length≤1000000):By l l=some true:=by
  unfold By
  rw [Oh l (fun _=>false) false (fun i a h=>by
   have hi:=O2 h
   unfold Az
   rw [T6 hi,G0 h,M6 hi (by omega)]
   simp) (by unfold Az;rw [P4];rfl)]
  simp [thenS]
theorem Xu {c:Curve}(h:c.Pts.length≤1000000):Jy c c=some true:=by
  unfold Jy
  rw [show ((c.Pts.length:Int) !=(c.Pts.length:Int))=false by simp,l7,Oh c.Pts (fun _=>false) false (fun i a h=>by
   have hi:=O2 h
   unfold Fh
   rw [T6 hi,G0 h,M6 hi (by omega)]
   simp) (by unfold Fh;rw [P4];rfl)]
  simp [thenS]
theorem Yo {l:Lane}(h1:l.Curve_.Pts.length≤1000000)(h2:l.Next.length≤1000000):Eg l l=some true:=by
  unfold Eg
  rw [Xu h1,Pu h2]
  simp
theorem Yp {z:Zone}(h:z.Parts.length≤1000000):Eh z z=some true:=by
  unfold Eh
  rw [Oh z.Parts (fun _=>false) false (fun i a h=>by
   have hi:=O2 h
   unfold Ba
   rw [T6 hi,G0 h,M6 hi (by omega)]
   simp) (by unfold Ba;rw [P4];rfl)]
  simp [thenS]
theorem Uz {s:Signal}(h1:s.Phases.length≤1000000)(h2: ∀p∈s.Phases,p.Green.length≤1000000):Bz s s=some true:=by
  unfold Bz
  rw [Oh s.Phases (fun _=>false) false (fun i a h=>by
   have hi:=O2 h
   unfold Y0
   rw [T6 hi,G0 h,M6 hi (by omega)]
   simp [Pu (h2 a (lF h))]) (by unfold Y0;rw [P4];rfl)]
  simp [thenS]
theorem Zy {m:Map}(B:BearM m):Hq m m=some true:=by
  have b1:=B.toBear.lanes
  have b2:=B.toBearZ.many
  have b3:=B.toBearS.many
  have b4:=B.toBearW.many
  have row: ∀(t:Int) (n:Nat),X6 m t=some (n:Int)→n≤1000000→(∀i:Nat,i<n→Y3 m m t (i:Int)=some true)→loop (Y4 m m t) 0=some (.inl ()):=by
    intro t n hn hle hr
    have:=HE (F:=Y4 m m t) (σ:=Unit) (fun i _=>(i:Int)) (List.range n) (fun _ _=>True) (fun _ _ _=> .inl ()) (fun _=>(.inl ():Sum Unit Bool)) (s0:=()) (S0:=0) rfl trivial (fun i a _ h _=>by
      have hi:=O2 h
      rw [List.length_range]at hi
      unfold Y4
      rw [hn,lA,T6 hi,l6,hr i hi,lA,M6 hi (by omega)];rfl) (fun _ _ _ _ _ _ _=>trivial) (fun _ _=>by unfold Y4;rw [hn,lA,List.length_range,P4];rfl)
    rw [this]
    have key: ∀(l:List Nat) (i:Nat),Se (fun _ (_:Unit) (_:Nat)=>(.inl ():Sum Unit (Sum Unit Bool))) (fun _=>(.inl ():Sum Unit Bool)) i () l= .inl ():=by
      intro l
      induction l with
      |nil=>intro i;rfl
      |cons a r ih=>intro i;exact ih (i+1)
    rw [key]
  have r1:=row 1 m.Lanes.length rfl b1 (fun i hi=>by
    have e:=lG hi
    obtain ⟨p1,p2⟩:=B.toBear.pts _ (List.getElem_mem hi)
    unfold Y3
    rw [show ((1:Int)==1)=true from rfl,l6,G0 e,lA,lA,Yo p1 p2];rfl)
  have r2:=row 2 m.Zones.length rfl b2 (fun i hi=>by
    have e:=lG hi
    have p1:=B.toBearZ.parts _ (List.getElem_mem hi)
    unfold Y3
    rw [show ((2:Int)==1)=false from rfl,show ((2:Int)==2)=true from rfl,l7,l6,G0 e,lA,lA,Yp p1];rfl)
  have r3:=row 3 m.Signals.length rfl b3 (fun i hi=>by
    have e:=lG hi
    obtain ⟨p1,p2⟩:=B.toBearS.phases _ (List.getElem_mem hi)
    unfold Y3
    rw [show ((3:Int)==1)=false from rfl,show ((3:Int)==2)=false from rfl,show ((3:Int)==3)=true from rfl,l7,l7,l6,G0 e,lA,lA,Uz p1 p2];rfl)
  have r4:=row 4 m.Works.length rfl b4 (fun i hi=>by
    have e:=lG hi
    unfold Y3
    rw [show ((4:Int)==1)=false from rfl,show ((4:Int)==2)=false from rfl,show ((4:Int)==3)=false from rfl,l7,l7,l7,G0 e,lA,lA]
    simp)
  have s: ∀(t t':Int) (n:Int),decide (t≤4)=true→X6 m t=some n→J3 (t+1)=t'→loop (Y4 m m t) 0=some (.inl ())→Fi m m t=some (.go t'):=by
    intro t t' n h1 h2 h3 h4
    unfold Fi
    rw [h1,l6,h2,lA,lA,show (n !=n)=false by simp,l7,h4,h3];rfl
  unfold Hq
  rw [U2 (s 1 2 _ rfl rfl rfl r1),U2 (s 2 3 _ rfl rfl rfl r2),U2 (s 3 4 _ rfl rfl rfl r3),U2 (s 4 5 _ rfl rfl rfl r4),J2 (t:= .inl ()) rfl]
  simp [thenS]
section run
variable {α S τ:Type}(pk:Int→List Edit→S)(fin:List Edit→τ)(t:Int)(put:Edit→α→Edit)(a b:List α)(B:Nat)
end run
theorem Xv {l:Lane}(h1:l.Curve_.Pts.length≤1000000)(h2:l.Next.length≤1000000):Bg l=some l:=by
  unfold Bg Md Hv Co W3
  rw [Gz h1,Gz h2];rfl
theorem Xw {z:Zone}(h:z.Parts.length≤1000000):Bh z=some z:=by
  unfold Bh Cp
  rw [Gz h];rfl
theorem Sj {s:Signal}(h1:s.Phases.length≤1000000)(h2: ∀p∈s.Phases,p.Green.length≤1000000):X4 s=some s:=by
  unfold X4 V9
  rw [Gz h1,lA]
  have:=HE (F:=V0 s.Phases) (σ:=Unit) (fun i _=>((i:Int),s)) s.Phases (fun _ _=>True) (fun _ _ _=> .inl ()) (fun _=>s) (s0:=()) (S0:=(0,Signal.mk s.Offset s.Phases)) rfl trivial (fun i p _ h _=>by
    have hi:=O2 h
    unfold V0 W3
    dsimp only
    rw [T6 hi,G0 h,l6,lA,Gz (h2 p (lF h)),lA,lA,M6 hi (by omega)]
    have e:Sw s.Phases (i:Int) (Phase.mk p.Ticks p.Green)=s.Phases:=by
      unfold Sw
      rw [bJ]
      exact List.ext_getElem? fun k=>by
        rw [List.getElem?_set]
        split
        ·next q=>subst q;exact h.symm
        ·rfl
    rw [e]) (fun _ _ _ _ _ _ _=>trivial) (fun _ _=>by unfold V0;rw [P4];rfl)
  rw [this]
  have key: ∀(l:List Phase) (i:Nat),Se (fun _ (_:Unit) (_:Phase)=>(.inl ():Sum Unit Signal)) (fun _=>s) i () l=s:=by
    intro l
    induction l with
    |nil=>intro i;rfl
    |cons a r ih=>intro i;exact ih (i+1)
  rw [key];rfl
structure EditOK (e:Edit):Prop where
  pts:e.Lane_.Curve_.Pts.length≤1000000
  next:e.Lane_.Next.length≤1000000
  parts:e.Zone_.Parts.length≤1000000
  phases:e.Signal_.Phases.length≤1000000
  greens: ∀p∈e.Signal_.Phases,p.Green.length≤1000000
/-! ### Copies -/
theorem SM {l:List Lane}(hl:l.length≤1000000)(h: ∀x∈l,x.Curve_.Pts.length≤1000000∧x.Next.length≤1000000):N7 l=some l:=by
  unfold N7
  rw [Uh (fun i s=>(s,(i:Int))) l id (S0:=([],0)) rfl (fun i p s hp hs=>by
   have hi:=O2 hp
   have hm:=h p (lF hp)
   unfold L3
   dsimp only
   rw [T6 hi,G0 hp,l6,lA,Xv hm.1 hm.2,lA,Bm (by simp;omega),lA,M6 hi (by omega)]) (fun s=>by unfold L3;rw [P4];rfl)]
  rfl
theorem SN {l:List Zone}(hl:l.length≤1000000)(h: ∀x∈l,x.Parts.length≤1000000):N8 l=some l:=by
  unfold N8
  rw [Uh (fun i s=>(s,(i:Int))) l id (S0:=([],0)) rfl (fun i p s hp hs=>by
   have hi:=O2 hp
   unfold L4
   dsimp only
   rw [T6 hi,G0 hp,l6,lA,Xw (h p (lF hp)),lA,Bm (by simp;omega),lA,M6 hi (by omega)]) (fun s=>by unfold L4;rw [P4];rfl)]
  rfl
theorem SO {l:List Signal}(hl:l.length≤1000000)(h: ∀x∈l,x.Phases.length≤1000000∧∀p∈x.Phases,p.Green.length≤1000000):K7 l=some l:=by
  unfold K7
  rw [Uh (fun i s=>(s,(i:Int))) l id (S0:=([],0)) rfl (fun i p s hp hs=>by
   have hi:=O2 hp
   have hm:=h p (lF hp)
   unfold J5
   dsimp only
   rw [T6 hi,G0 hp,l6,lA,Sj hm.1 hm.2,lA,Bm (by simp;omega),lA,M6 hi (by omega)]) (fun s=>by unfold J5;rw [P4];rfl)]
  rfl
theorem SP {l:List Work}(hl:l.length≤1000000):N9 l=some l:=by
  unfold N9
  rw [Uh (fun i s=>(s,(i:Int))) l id (S0:=([],0)) rfl (fun i p s hp hs=>by
   have hi:=O2 hp
   unfold L5 Fe
   dsimp only
   rw [T6 hi,G0 hp,l6,lA,lA,Bm (by simp;omega),lA,M6 hi (by omega)]) (fun s=>by unfold L5;rw [P4];rfl)]
  rfl
theorem Yq {m:Map}(B:BearM m):Ff m=some m:=by
  unfold Ff
  rw [SM B.toBear.lanes B.toBear.pts,lA,SN B.toBearZ.many B.toBearZ.parts,lA,SO B.toBearS.many B.toBearS.phases,lA,SP B.toBearW.many];rfl
/-! ### One edit -/
/-- The rows that an edit leaves; none: it can't be. -/
def Di {α:Type}(k i:Int)(xs:List α)(v:α):Option (List α):=
  if k=1∧i=xs.length then some (xs++ [v])
  else if k=2∧0<xs.length∧i=(xs.length:Int) - 1 then some (xs.take i.toNat)
  else if k=3∧0≤i∧i<xs.length then some (xs.set i.toNat v)else none
theorem Ll {α:Type}{k i:Int}{xs zs:List α}{v:α}(h:Di k i xs v=some zs):zs.length≤xs.length+1:=by
  unfold Di at h
  split at h
  ·cases h;simp
  ·split at h
   ·cases h;rw [lQ];omega
   ·split at h
    ·cases h;rw [List.length_set];omega
    ·cases h
theorem Tk {α:Type}{k i:Int}{xs zs:List α}{v:α}(h:Di k i xs v=some zs): ∀x∈zs,x∈xs∨x=v:=by
  unfold Di at h
  intro x hx
  split at h
  ·cases h;simpa using hx
  ·split at h
   ·cases h;exact .inl (List.mem_of_mem_take hx)
   ·split at h
    ·cases h;exact List.mem_or_eq_of_mem_set hx
    ·cases h
theorem Sk {α:Type}(k i:Int)(xs:List α)(v:α)(hl:xs.length≤900000):Da k i xs v=some ((Di k i xs v).getD xs,(Di k i xs v).isSome):=by
  unfold Da Di
  by_cases h1:k=1∧i=xs.length
  ·obtain ⟨rfl,rfl⟩:=h1
   rw [l8 ⟨rfl,rfl⟩,show (((1:Int)==1)&& ((xs.length:Int)==(xs.length:Int)))=true by simp,l6,Bm (by simp;omega)];rfl
  ·rw [l9 h1,show ((k==1)&& (i==(xs.length:Int)))=false by rw [bF];simpa using h1,l7]
   by_cases h2:k=2∧0<xs.length∧i=(xs.length:Int) - 1
   ·obtain ⟨rfl,h3,rfl⟩:=h2
    rw [l8 ⟨rfl,h3,rfl⟩,M9 (by omega),show ((((2:Int)==2)&&decide ((xs.length:Int)>0))&& ((xs.length:Int) - 1==(xs.length:Int) - 1))=true by simp;omega,l6]
    have e:Gi xs 0 ((xs.length:Int) - 1)=some (xs.take ((xs.length:Int) - 1).toNat):=by unfold Gi;rw [l8 ⟨by omega,by omega,by omega⟩];simp
    rw [e];rfl
   ·rw [l9 h2,show (((k==2)&&decide ((xs.length:Int)>0))&& (i==J3 ((xs.length:Int) - 1)))=false by
    rw [bF]
    intro q
    simp only [bB,bG,l5]at q
    obtain ⟨⟨q1,q2⟩,q3⟩:=q
    rw [M9 (by omega)]at q3
    exact h2 ⟨q1,by omega,q3⟩,l7]
    by_cases h3:k=3∧0≤i∧i<xs.length
    ·rw [l8 h3,show (((k==3)&&decide (i≥0))&&decide (i< (xs.length:Int)))=true by simp [h3],l6]
     obtain ⟨x,hx⟩: ∃x,E6 xs i=some x:=by
       have:i=((i.toNat:Nat):Int):=(Int.toNat_of_nonneg h3.2.1).symm
       rw [this]
       exact ⟨_,G0 (lG (by omega))⟩
     rw [hx];rfl
    ·rw [l9 h3,show (((k==3)&&decide (i≥0))&&decide (i< (xs.length:Int)))=false by
     rw [bF]
     intro q
     simp only [bB,bG,l5]at q
     exact h3 ⟨q.1.1,by omega,q.2⟩,l7];rfl
noncomputable def Qp (e:Edit)(m:Map):Option Map:=
  if e.Table=1 then (Di e.Kind e.At m.Lanes e.Lane_).map fun l=>⟨m.Version,l,m.Zones,m.Signals,m.Works⟩
  else if e.Table=2 then (Di e.Kind e.At m.Zones e.Zone_).map fun l=>⟨m.Version,m.Lanes,l,m.Signals,m.Works⟩
  else if e.Table=3 then (Di e.Kind e.At m.Signals e.Signal_).map fun l=>⟨m.Version,m.Lanes,m.Zones,l,m.Works⟩
  else (Di e.Kind e.At m.Works e.Work_).map fun l=>⟨m.Version,m.Lanes,m.Zones,m.Signals,l⟩
/-- A list of edits: the map, or how it went wrong. -/
noncomputable def Ku:List Edit→Map→Sum Map Int
  | [],m=> .inl m
  |e::r,m=>if e.Kind<1∨3<e.Kind∨e.Table<1∨4<e.Table then .inr 4 else match Qp e m with
   |none=> .inr 2
   |some m'=>Ku r m'
/-- What every list can bear, with so many edits to come. -/
structure RoomM (m:Map)(n:Nat):Prop where
  lanes:m.Lanes.length+n≤900000
  zones:m.Zones.length+n≤900000
  signals:m.Signals.length+n≤900000
  works:m.Works.length+n≤900000
theorem Zz {e:Edit}{m m':Map}{n:Nat}(R:RoomM m (n+1))(h:Qp e m=some m'):RoomM m' n∧m'.Version=m.Version:=by
  obtain ⟨r1,r2,r3,r4⟩:=R
  unfold Qp at h
  repeat' split at h
  all_goals
    rw [lD]at h
    obtain ⟨l,hl,rfl⟩:=h
    have:=Ll hl
    exact ⟨⟨by dsimp only;omega,by dsimp only;omega,by dsimp only;omega,by dsimp only;omega⟩,rfl⟩
theorem AA {e:Edit}{m m':Map}(B:BearM m)(E:EditOK e)(R:RoomM m 1)(h:Qp e m=some m'):BearM m':=by
  obtain ⟨r1,r2,r3,r4⟩:=R
  unfold Qp at h
  split at h
  ·rw [lD]at h
   obtain ⟨l,hl,rfl⟩:=h
   have:=Ll hl
   exact ⟨⟨by dsimp only;omega,fun x hx=>by
     rcases Tk hl x hx with q|rfl
     ·exact B.toBear.pts x q
     ·exact ⟨E.pts,E.next⟩⟩,⟨B.toBearS.many,B.toBearS.phases⟩,⟨B.toBearZ.many,B.toBearZ.parts⟩,⟨B.toBearW.many⟩⟩
  ·split at h
   ·rw [lD]at h
    obtain ⟨l,hl,rfl⟩:=h
    have:=Ll hl
    exact ⟨⟨B.toBear.lanes,B.toBear.pts⟩,⟨B.toBearS.many,B.toBearS.phases⟩,⟨by dsimp only;omega,fun x hx=>by
      rcases Tk hl x hx with q|rfl
      ·exact B.toBearZ.parts x q
      ·exact E.parts⟩,⟨B.toBearW.many⟩⟩
   ·split at h
    ·rw [lD]at h
     obtain ⟨l,hl,rfl⟩:=h
     have:=Ll hl
     exact ⟨⟨B.toBear.lanes,B.toBear.pts⟩,⟨by dsimp only;omega,fun x hx=>by
       rcases Tk hl x hx with q|rfl
       ·exact B.toBearS.phases x q
       ·exact ⟨E.phases,E.greens⟩⟩,⟨B.toBearZ.many,B.toBearZ.parts⟩,⟨B.toBearW.many⟩⟩
    ·rw [lD]at h
     obtain ⟨l,hl,rfl⟩:=h
     have:=Ll hl
     exact ⟨⟨B.toBear.lanes,B.toBear.pts⟩,⟨B.toBearS.many,B.toBearS.phases⟩,⟨B.toBearZ.many,B.toBearZ.parts⟩,⟨by dsimp only;omega⟩⟩
theorem Kp: ∀{l:List Edit} {m m':Map},BearM m→(∀e∈l,EditOK e)→RoomM m l.length→Ku l m= .inl m'→BearM m'∧m'.Version=m.Version
  | [],m,m',B,_,_,h=>by cases h;exact ⟨B,rfl⟩
  |e::r,m,m',B,E,R,h=>by
   rw [Ku]at h
   split at h
   ·cases h
   ·split at h
    ·cases h
    ·next m1 q=>
     have R1:RoomM m 1:=⟨by have:=R.lanes;simp at this;omega,by have:=R.zones;simp at this;omega,by have:=R.signals;simp at this;omega,by have:=R.works;simp at this;omega⟩
     obtain ⟨R2,v⟩:=Zz (n:=r.length) (by simpa using R) q
     obtain ⟨B3,v3⟩:=Kp (AA B (E e (by simp)) R1 q) (fun x hx=>E x (List.mem_cons_of_mem _ hx)) R2 h
     exact ⟨B3,v3.trans v⟩
def Dq:Map:=Map.mk 0 [] [] [] []
def RH:Sum Map Int→Sum Map (Map×Int)
  | .inl m=> .inl m
  | .inr c=> .inr (Dq,c)
theorem DV {F:Int×Map→Option (Stp (Int×Map) (Sum Map (Map×Int)))}(l:List Edit)(hl:l.length≤100000)
    (hF: ∀(i:Nat) e m,l[i]? =some e→BearM m→EditOK e→RoomM m 1→F ((i:Int),m)=some (if e.Kind<1∨3<e.Kind∨e.Table<1∨4<e.Table then .out (.inr (Dq,4))else match Qp e m with
      |none=> .out (.inr (Dq,2))
      |some m'=> .go (((i+1:Nat):Int),m'))) (h0: ∀m,F ((l.length:Int),m)=some (.out (.inl m))) (hE: ∀e∈l,EditOK e): ∀(r:List Edit) (i:Nat) (m:Map),l.drop i=r→i≤l.length→BearM m→RoomM m r.length→loop F ((i:Int),m)=some (RH (Ku r m)):=by
  intro r
  induction r with
  |nil=>
   intro i m hi hil _ _
   have:=Ap hi
   obtain rfl:i=l.length:=by omega
   rw [J2 (h0 _)];rfl
  |cons e r ih=>
   intro i m hi hil B R
   have hlt:=X0 hi
   have he:=Xn hi
   have R1:RoomM m 1:=⟨by have:=R.lanes;simp at this;omega,by have:=R.zones;simp at this;omega,by have:=R.signals;simp at this;omega,by have:=R.works;simp at this;omega⟩
   have hO:=hE e (lF he)
   have h:=hF i e m he B hO R1
   rw [Ku]
   split
   ·next q=>rw [l8 q]at h;rw [J2 h];rfl
   ·next q=>
    rw [l9 q]at h
    cases q2:Qp e m with
    |none=>rw [q2]at h;rw [J2 h];rfl
    |some m'=>
     rw [q2]at h
     rw [U2 h]
     exact ih (i+1) m' (Q5 hi) hlt (AA B hO R1 q2) (Zz (n:=r.length) (by simpa using R) q2).1
/-! ### The program -/
theorem Ow {α:Type}{k i:Int}{xs:List α}{v:α}{n:Nat}(f:List α→Map):
    thenS (some (.inl ((Di k i xs v).isSome,f ((Di k i xs v).getD xs))):Option (Sum (Bool×Map) (Map×Int))) (fun y2=>cond (!y2.1) (some (.out (.inr (Dq,2)))) (some (.go ((((n:Nat):Int)),y2.2)))) (fun r=>some (.out (.inr r)))
      =some (match (Di k i xs v).map f with|none=>Stp.out (Sum.inr (Dq,2))|some m'=>Stp.go (((n:Nat):Int),m'):Stp (Int×Map) (Sum Map (Map×Int))):=by
  cases Di k i xs v<;>rfl
theorem GD (p:Patch)(hl:p.Edits.length≤100000)(hE: ∀e∈p.Edits,EditOK e){m:Map}(B:BearM m)(R:RoomM m p.Edits.length):loop (Bt p) (0,m)=some (RH (Ku p.Edits m)):=by
  refine DV p.Edits hl (fun i e m he B E R=> ?_) (fun m=>by unfold Bt;dsimp only;rw [P4];rfl) hE p.Edits 0 m rfl (by omega) B R
  have hi:=O2 he
  unfold Bt
  dsimp only
  rw [T6 hi,l6,G0 he,lA,M6 hi (by omega)]
  by_cases k:e.Kind<1∨3<e.Kind
  ·rw [show ((decide (e.Kind<1))||(decide (e.Kind>3)))=true by simpa using k,l8 (by omega)];rfl
  ·rw [show ((decide (e.Kind<1))||(decide (e.Kind>3)))=false by rw [bF];simpa using k,l7]
   have r1:=R.lanes
   have r2:=R.zones
   have r3:=R.signals
   have r4:=R.works
   by_cases t1:e.Table=1
   ·rw [l9 (by omega),show (e.Table==1)=true by simpa using t1,l6,Xv E.pts E.next,lA,Sk _ _ _ _ (by omega),lA]
    unfold Qp
    rw [l8 t1]
    exact Ow fun l=>⟨m.Version,l,m.Zones,m.Signals,m.Works⟩
   ·rw [show (e.Table==1)=false by simpa using t1,l7]
    by_cases t2:e.Table=2
    ·rw [l9 (by omega),show (e.Table==2)=true by simpa using t2,l6,Xw E.parts,lA,Sk _ _ _ _ (by omega),lA]
     unfold Qp
     rw [l9 t1,l8 t2]
     exact Ow fun l=>⟨m.Version,m.Lanes,l,m.Signals,m.Works⟩
    ·rw [show (e.Table==2)=false by simpa using t2,l7]
     by_cases t3:e.Table=3
     ·rw [l9 (by omega),show (e.Table==3)=true by simpa using t3,l6,Sj E.phases E.greens,lA,Sk _ _ _ _ (by omega),lA]
      unfold Qp
      rw [l9 t1,l9 t2,l8 t3]
      exact Ow fun l=>⟨m.Version,m.Lanes,m.Zones,l,m.Works⟩
     ·rw [show (e.Table==3)=false by simpa using t3,l7]
      by_cases t4:e.Table=4
      ·rw [l9 (by omega),show (e.Table==4)=true by simpa using t4,l6,Sk _ _ _ _ (by omega),lA]
       unfold Qp
       rw [l9 t1,l9 t2,l9 t3]
       exact Ow fun l=>⟨m.Version,m.Lanes,m.Zones,m.Signals,l⟩
      ·rw [l8 (by omega),show (e.Table==4)=false by simpa using t4];rfl
def NB (m:Map):Map:=Map.mk (m.Version+1) m.Lanes m.Zones m.Signals m.Works
noncomputable def Tl (m:Map)(p:Patch):Map×Int:=
  if Mv m≠0 then (Dq,Mv m)else if p.Base≠m.Version then (Dq,14)else match Ku p.Edits m with
   | .inr c=>(Dq,c)
   | .inl a=>if a.Version=1099511627776 then (Dq,2)else if Mv (NB a)≠0 then (Dq,Mv (NB a))else (NB a,0)
theorem Xx {m:Map}(B:BearM m):BearM (NB m):=⟨⟨B.toBear.lanes,B.toBear.pts⟩,⟨B.toBearS.many,B.toBearS.phases⟩,⟨B.toBearZ.many,B.toBearZ.parts⟩,⟨B.toBearW.many⟩⟩
theorem MW {m:Map}{p:Patch}(B:BearM m)(hl:p.Edits.length≤100000)(hE: ∀e∈p.Edits,EditOK e):Ie m p=some (Tl m p):=by
  unfold Ie Tl
  rw [Oj B,lA]
  by_cases q:Mv m=0
  ·have V:=chkR_zero.1 q
   have R:RoomM m p.Edits.length:=⟨by have:=V.lanes;omega,by have:=V.zones;omega,by have:=V.signals;omega,by have:=V.works;omega⟩
   rw [q,l9 (by simp),show ((0:Int) !=0)=false from rfl,l7]
   by_cases q2:p.Base=m.Version
   ·rw [l9 (by simpa using q2),show (p.Base !=m.Version)=false by simpa using q2,l7,Yq B,lA,GD p hl hE B R]
    cases h:Ku p.Edits m with
    |inr c=>rfl
    |inl a=>
     obtain ⟨A,hv⟩:=Kp B hE R h
     have hver:=V.ver
     show (cond (decide (a.Version≥1099511627776)) _ _)=_
     dsimp only
     by_cases q3:a.Version=1099511627776
     ·rw [l8 q3,l3 (by omega)];rfl
     ·rw [l9 q3,l4 (by omega),l7,M9 (by omega)]
      show (Q3 (NB a)).bind _=_
      rw [Oj (Xx A),lA]
      by_cases q4:Mv (NB a)=0
      ·rw [l9 (by simpa using q4),q4];rfl
      ·rw [l8 q4,show (Mv (NB a) !=0)=true by simpa using q4];rfl
   ·rw [l8 q2,show (p.Base !=m.Version)=true by simpa using q2];rfl
  ·rw [l8 q,show (Mv m !=0)=true by simpa using q];rfl
/-! ### The document -/
def Va (k i n:Int):Bool:=((((k==1)&& (i !=n))||((k==2)&& ((n==0)||(i !=(J3 (n - 1))))))||((k==3)&& ((decide (i<0))||(decide (i≥n)))))
theorem MX {α:Type}{k i:Int}{xs:List α}(v:α)(h1:1≤k)(h3:k≤3)(hl:xs.length≤900000):Va k i (xs.length:Int)=(Di k i xs v).isNone:=by
  unfold Va Di
  rw [M9 (by omega),Bool.eq_iff_iff]
  obtain rfl|rfl|rfl:k=1∨k=2∨k=3:=by omega
  ·by_cases q:i=xs.length
   ·rw [l8 ⟨rfl,q⟩];simp [q]
   ·rw [l9 (by omega),l9 (by omega),l9 (by omega)];simp [q]
  ·by_cases q:0<xs.length∧i=(xs.length:Int) - 1
   ·rw [l9 (by omega),l8 ⟨rfl,q⟩];simp [q];intro h;rw [h]at q;simp at q
   ·rw [l9 (by omega),l9 (by omega),l9 (by omega)];simp;by_cases hx:xs= []
    ·exact .inl hx
    ·right;intro h;exact q ⟨List.length_pos_iff.2 hx,h⟩
  ·by_cases q:0≤i∧i<xs.length
   ·rw [l9 (by omega),l9 (by omega),l8 ⟨rfl,q⟩];simp;omega
   ·rw [l9 (by omega),l9 (by omega),l9 (by omega)];simp;omega
theorem Ox {α:Type}{k i:Int}{xs zs:List α}{v:α}(h:Di k i xs v=some zs)(hk:k≠2)(hl:xs.length≤900000):
    Gi xs 0 i=some (xs.take i.toNat)∧Q8 ([]:List α) (xs.take i.toNat)=some (xs.take i.toNat)∧Q8 (xs.take i.toNat) [v]=some (xs.take i.toNat++ [v])∧Gi xs (BM false (xs.length:Int) (J3 (i+1))) (xs.length:Int)=some (xs.drop (i.toNat+1))∧Q8 (xs.take i.toNat++ [v]) (xs.drop (i.toNat+1))=some zs:=by
  have hi:0≤i∧i≤xs.length∧zs=xs.take i.toNat++ [v]++xs.drop (i.toNat+1):=by
    unfold Di at h
    split at h
    ·next q=>cases h;refine ⟨by omega,by omega,?_⟩;rw [q.2,bJ,List.take_length,List.drop_eq_nil_of_le (by omega),List.append_nil]
    ·split at h
     ·next q=>exact absurd q.1 hk
     ·split at h
      ·next q=>
       cases h
       refine ⟨by omega,by omega,?_⟩
       rw [List.set_eq_take_append_cons_drop,l8 (by omega),List.append_assoc];rfl
      ·cases h
  obtain ⟨h1,h2,rfl⟩:=hi
  have ht:(xs.take i.toNat).length≤900000:=by rw [lQ];omega
  refine ⟨?_,Bm (by simp;omega),Bm (by rw [List.length_singleton];omega),?_,Bm (by simp only [lK,List.length_drop,List.length_singleton];omega)⟩
  ·unfold Gi;rw [l8 ⟨by omega,by omega,by omega⟩];simp
  ·rw [M9 (by omega),GX]
   unfold Gi
   rw [l8 ⟨by omega,by omega,by omega⟩,bJ,List.take_length]
   congr 1
   by_cases q:i+1≤xs.length
   ·rw [show (min (xs.length:Int) (i+1)).toNat=i.toNat+1 by omega]
   ·rw [List.drop_eq_nil_of_le (by omega),List.drop_eq_nil_of_le (by omega)]
theorem Oy {α:Type}{i:Int}{xs zs:List α}{v:α}(h:Di 2 i xs v=some zs)(hl:xs.length≤900000):Gi xs 0 (J3 ((xs.length:Int) - 1))=some zs:=by
  unfold Di at h
  rw [l9 (by omega)]at h
  split at h
  ·next q=>
   cases h
   rw [M9 (by omega)]
   unfold Gi;rw [l8 ⟨by omega,by omega,by omega⟩,q.2.2];simp
  ·rw [l9 (by omega)]at h;cases h
theorem Sl {α:Type}{k i:Int}{xs:List α}{v:α}(f:List α→Map)(h1:1≤k)(h3:k≤3)(hl:xs.length≤900000)(h:Va k i (xs.length:Int)=true):(Di k i xs v).map f=none:=by
  rw [MX v h1 h3 hl]at h
  cases q:Di k i xs v with
  |none=>rfl
  |some z=>rw [q]at h;cases h
theorem Sm {α:Type}{k i:Int}{xs:List α}(v:α)(h1:1≤k)(h3:k≤3)(hl:xs.length≤900000)(h:Va k i (xs.length:Int)=false): ∃zs,Di k i xs v=some zs:=by
  rw [MX v h1 h3 hl]at h
  cases q:Di k i xs v with
  |none=>rw [q]at h;cases h
  |some z=>exact ⟨z,rfl⟩
theorem DW (p:Patch)(hl:p.Edits.length≤100000)(hE: ∀e∈p.Edits,EditOK e){m:Map}(B:BearM m)(R:RoomM m p.Edits.length):loop (Bx p) (0,m)=some (RH (Ku p.Edits m)):=by
  refine DV p.Edits hl (fun i e m he B E R=> ?_) (fun m=>by unfold Bx;dsimp only;rw [P4];rfl) hE p.Edits 0 m rfl (by omega) B R
  have hi:=O2 he
  unfold Bx
  dsimp only
  rw [T6 hi,l6,G0 he,lA,M6 hi (by omega)]
  by_cases k:e.Kind<1∨3<e.Kind∨e.Table<1∨4<e.Table
  ·rw [show ((((decide (e.Kind<1))||(decide (e.Kind>3)))||(decide (e.Table<1)))||(decide (e.Table>4)))=true by simp;omega,l8 k];rfl
  ·rw [show ((((decide (e.Kind<1))||(decide (e.Kind>3)))||(decide (e.Table<1)))||(decide (e.Table>4)))=false by rw [bF];simp;omega,l9 k,l7]
   have r1:=R.lanes
   have r2:=R.zones
   have r3:=R.signals
   have r4:=R.works
   have k1:1≤e.Kind:=by omega
   have k3:e.Kind≤3:=by omega
   obtain t|t|t|t:e.Table=1∨e.Table=2∨e.Table=3∨e.Table=4:=by omega
   ·rw [t,show X6 m 1=some (m.Lanes.length:Int) from rfl,lA]
    show cond (Va e.Kind e.At (m.Lanes.length:Int)) _ _=_
    unfold Qp
    rw [l8 t]
    cases q:Va e.Kind e.At (m.Lanes.length:Int)
    ·obtain ⟨zs,hz⟩:=Sm e.Lane_ k1 k3 (by omega) q
     rw [l7,hz]
     by_cases k2:e.Kind=2
     ·rw [show (e.Kind==2)=true by simpa using k2,l6]
      rw [k2]at hz
      unfold Fo
      rw [show ((1:Int)==1)=true from rfl,l6,Oy hz (by omega)];rfl
     ·rw [show (e.Kind==2)=false by simpa using k2,l7]
      obtain ⟨p1,p2,p3,p4,p5⟩:=Ox hz k2 (by omega)
      unfold Hp
      rw [t,show ((1:Int)==1)=true from rfl,l6,p1,lA,p2,lA,Xs E.pts E.next,lA,p3,lA,p4,lA,p5];rfl
    ·rw [Sl _ k1 k3 (by omega) q];rfl
   ·rw [t,show X6 m 2=some (m.Zones.length:Int) from rfl,lA]
    show cond (Va e.Kind e.At (m.Zones.length:Int)) _ _=_
    unfold Qp
    rw [l9 (by omega),l8 t]
    cases q:Va e.Kind e.At (m.Zones.length:Int)
    ·obtain ⟨zs,hz⟩:=Sm e.Zone_ k1 k3 (by omega) q
     rw [l7,hz]
     by_cases k2:e.Kind=2
     ·rw [show (e.Kind==2)=true by simpa using k2,l6]
      rw [k2]at hz
      unfold Fo
      rw [show ((2:Int)==1)=false from rfl,show ((2:Int)==2)=true from rfl,l7,l6,Oy hz (by omega)];rfl
     ·rw [show (e.Kind==2)=false by simpa using k2,l7]
      obtain ⟨p1,p2,p3,p4,p5⟩:=Ox hz k2 (by omega)
      unfold Hp
      rw [t,show ((2:Int)==1)=false from rfl,show ((2:Int)==2)=true from rfl,l7,l6,p1,lA,p2,lA,Xt E.parts,lA,p3,lA,p4,lA,p5];rfl
    ·rw [Sl _ k1 k3 (by omega) q];rfl
   ·rw [t,show X6 m 3=some (m.Signals.length:Int) from rfl,lA]
    show cond (Va e.Kind e.At (m.Signals.length:Int)) _ _=_
    unfold Qp
    rw [l9 (by omega),l9 (by omega),l8 t]
    cases q:Va e.Kind e.At (m.Signals.length:Int)
    ·obtain ⟨zs,hz⟩:=Sm e.Signal_ k1 k3 (by omega) q
     rw [l7,hz]
     by_cases k2:e.Kind=2
     ·rw [show (e.Kind==2)=true by simpa using k2,l6]
      rw [k2]at hz
      unfold Fo
      rw [show ((3:Int)==1)=false from rfl,show ((3:Int)==2)=false from rfl,show ((3:Int)==3)=true from rfl,l7,l7,l6,Oy hz (by omega)];rfl
     ·rw [show (e.Kind==2)=false by simpa using k2,l7]
      obtain ⟨p1,p2,p3,p4,p5⟩:=Ox hz k2 (by omega)
      unfold Hp
      rw [t,show ((3:Int)==1)=false from rfl,show ((3:Int)==2)=false from rfl,show ((3:Int)==3)=true from rfl,l7,l7,l6,p1,lA,p2,lA,Si E.phases E.greens,lA,p3,lA,p4,lA,p5];rfl
    ·rw [Sl _ k1 k3 (by omega) q];rfl
   ·rw [t,show X6 m 4=some (m.Works.length:Int) from rfl,lA]
    show cond (Va e.Kind e.At (m.Works.length:Int)) _ _=_
    unfold Qp
    rw [l9 (by omega),l9 (by omega),l9 (by omega)]
    cases q:Va e.Kind e.At (m.Works.length:Int)
    ·obtain ⟨zs,hz⟩:=Sm e.Work_ k1 k3 (by omega) q
     rw [l7,hz]
     by_cases k2:e.Kind=2
     ·rw [show (e.Kind==2)=true by simpa using k2,l6]
      rw [k2]at hz
      unfold Fo
      rw [show ((4:Int)==1)=false from rfl,show ((4:Int)==2)=false from rfl,show ((4:Int)==3)=false from rfl,show ((4:Int)==4)=true from rfl,l7,l7,l7,l6,Oy hz (by omega)];rfl
     ·rw [show (e.Kind==2)=false by simpa using k2,l7]
      obtain ⟨p1,p2,p3,p4,p5⟩:=Ox hz k2 (by omega)
      unfold Hp
      rw [t,show ((4:Int)==1)=false from rfl,show ((4:Int)==2)=false from rfl,show ((4:Int)==3)=false from rfl,show ((4:Int)==4)=true from rfl,l7,l7,l7,l6,p1,lA,p2,lA,p3,lA,p4,lA,p5];rfl
    ·rw [Sl _ k1 k3 (by omega) q];rfl
theorem IO {m:Map}{p:Patch}(B:BearM m)(hl:p.Edits.length≤100000)(hE: ∀e∈p.Edits,EditOK e):Ig m p=some (Tl m p):=by
  unfold Ig Tl
  rw [Oi B,lA]
  by_cases q:Mv m=0
  ·have V:=chkR_zero.1 q
   have R:RoomM m p.Edits.length:=⟨by have:=V.lanes;omega,by have:=V.zones;omega,by have:=V.signals;omega,by have:=V.works;omega⟩
   rw [q,l9 (by simp),show ((0:Int) !=0)=false from rfl,l7]
   by_cases q2:p.Base=m.Version
   ·rw [l9 (by simpa using q2),show (p.Base !=m.Version)=false by simpa using q2,l7,HH B,lA,DW p hl hE B R]
    cases h:Ku p.Edits m with
    |inr c=>rfl
    |inl a=>
     obtain ⟨A,hv⟩:=Kp B hE R h
     have hver:=V.ver
     show (cond (a.Version==1099511627776) _ _)=_
     dsimp only
     by_cases q3:a.Version=1099511627776
     ·rw [l8 q3,show (a.Version==1099511627776)=true by simpa using q3];rfl
     ·rw [l9 q3,show (a.Version==1099511627776)=false by simpa using q3,l7,M9 (by omega)]
      show (Ef (NB a)).bind _=_
      rw [Oi (Xx A),lA]
      by_cases q4:Mv (NB a)=0
      ·rw [l9 (by simpa using q4),q4];rfl
      ·rw [l8 q4,show (Mv (NB a) !=0)=true by simpa using q4];rfl
   ·rw [l8 q2,show (p.Base !=m.Version)=true by simpa using q2];rfl
  ·rw [l8 q,show (Mv m !=0)=true by simpa using q];rfl
theorem Kb:BearM Dq:=⟨⟨by simp [Dq],by simp [Dq]⟩,⟨by simp [Dq],by simp [Dq]⟩,⟨by simp [Dq],by simp [Dq]⟩,⟨by simp [Dq]⟩⟩
theorem DX {m:Map}{p:Patch}(B:BearM m)(hl:p.Edits.length≤100000)(hE: ∀e∈p.Edits,EditOK e):BearM (Tl m p).1:=by
  unfold Tl
  split
  ·exact Kb
  ·next q=>
   have V:=chkR_zero.1 (Classical.not_not.1 q)
   have R:RoomM m p.Edits.length:=⟨by have:=V.lanes;omega,by have:=V.zones;omega,by have:=V.signals;omega,by have:=V.works;omega⟩
   split
   ·exact Kb
   ·split
    ·exact Kb
    ·next a h=>
     split
     ·exact Kb
     ·split
      ·exact Kb
      ·exact Xx (Kp B hE R h).1
theorem GF {e:Edit}(h:Ml (Map.mk 0 [e.Lane_] [e.Zone_] [e.Signal_] [])=true):EditOK e:=by
  have B:=Xr h
  exact ⟨(B.toBear.pts _ (lZ.2 rfl)).1,(B.toBear.pts _ (lZ.2 rfl)).2,B.toBearZ.parts _ (lZ.2 rfl),(B.toBearS.phases _ (lZ.2 rfl)).1,(B.toBearS.phases _ (lZ.2 rfl)).2⟩
theorem Kv (m:Map)(p:Patch):Cs m p=some true:=by
  unfold Cs
  rw [DT,lA,DU]
  cases h:Ml m
  ·rfl
  ·have B:=Xr h
   by_cases h8:8<p.Edits.length
   ·rw [show ((!true)||(decide ((p.Edits.length:Int)>8)))=true by simp;omega];rfl
   ·rw [show ((!true)||(decide ((p.Edits.length:Int)>8)))=false by simp;omega,l7,
    Oh p.Edits (fun e=> !Ml (Map.mk 0 [e.Lane_] [e.Zone_] [e.Signal_] [])) true (fun i e he=>by
     have hi:=O2 he
     unfold U4
     rw [T6 hi,l6,G0 he,lA,DT,lA,M6 hi (by omega),DU]
     cases Ml (Map.mk 0 [e.Lane_] [e.Zone_] [e.Signal_] [])<;>rfl) (by unfold U4;rw [P4];rfl)]
    cases q:p.Edits.any fun e=> !Ml (Map.mk 0 [e.Lane_] [e.Zone_] [e.Signal_] [])
    ·have hE: ∀e∈p.Edits,EditOK e:=fun e he=>GF (by
       rw [List.any_eq_false]at q
       have:=q e he
       simpa using this)
     show (Fl m).bind _=_
     rw [HH B,lA,MW B (by omega) hE,IO B (by omega) hE,lA,lA,beq_self_eq_true,l6,Zy (DX B (by omega) hE),lA,Zy B]
     rfl
    ·rfl
end Go.Abs.Roadsz
