/-
  Plain facts on the functions: what they compute, and that the law holds of it.
-/
import Derived.Test.YtimbepcdlehjjaaGreatFns4
set_option maxRecDepth 100000
set_option synthInstance.maxHeartbeats 0
set_option synthInstance.maxSize 100000
set_option linter.unusedVariables false
namespace Go.Abs.Roadsz
open Go Go.Abs
instance (a)(b)(c)(d):Le (@Mb Cx a b c d) (Mb a b c d):=by unfold Mb;infer_instance
instance:Le (@Li Cx) (Li):=by unfold Li;infer_instance
instance (a):Le (@Ga Cx a) (Ga a):=by unfold Ga;infer_instance
instance curve_root_le (a):Le (@Cz Cx a) (Cz a):=by unfold Cz;infer_instance
instance (a)(b):Le (@T7 Cx a b) (T7 a b):=by unfold T7;infer_instance
instance (a):Le (@Aa Cx a) (Aa a):=by unfold Aa;infer_instance
instance (a)(b)(c):Le (@Z2 Cx a b c) (Z2 a b c):=by unfold Z2;infer_instance
instance (a)(b):Le (@O4 Cx a b) (O4 a b):=by unfold O4;infer_instance
instance (a):Le (@Q2 Cx a) (Q2 a):=by unfold Q2;infer_instance
instance (a)(b):Le (@N6 Cx a b) (N6 a b):=by unfold N6;infer_instance
instance (a):Le (@P7 Cx a) (P7 a):=by unfold P7;infer_instance
instance (a):Le (@F3 Cx a) (F3 a):=by unfold F3;infer_instance
instance (a):Le (@D6 Cx a) (D6 a):=by unfold D6;infer_instance
instance (a)(b):Le (@P4 Cx a b) (P4 a b):=by unfold P4;infer_instance
instance (a)(b)(c):Le (@D3 Cx a b c) (D3 a b c):=by unfold D3;infer_instance
instance (a)(b):Le (@F1 Cx a b) (F1 a b):=by unfold F1;infer_instance
instance (a)(b):Le (@D4 Cx a b) (D4 a b):=by unfold D4;infer_instance
instance (a)(b):Le (@N0 Cx a b) (N0 a b):=by unfold N0;infer_instance
instance (a):Le (@P2 Cx a) (P2 a):=by unfold P2;infer_instance
instance piecesGo_le (pts:List Spot): ∀(n i:Nat) (s:Int),Le (@Eo Cx pts n i s) (Eo pts n i s)
  |0,i,s=>Le.refl _
  |n+1,i,s=>by
   unfold Eo
   have:=fun i s=>piecesGo_le pts n i s
   infer_instance -- curve_root_le
instance (a):Le (@Ha Cx a) (Ha a):=by unfold Ha;infer_instance
instance (a):Le (@Ck Cx a) (Ck a):=by unfold Ck;infer_instance
instance (a):Le (@Cl Cx a) (Cl a):=by unfold Cl;infer_instance
instance (a)(b):Le (@V4 Cx a b) (V4 a b):=by unfold V4;infer_instance
instance (a)(b)(c):Le (@O5 Cx a b c) (O5 a b c):=by unfold O5;infer_instance
instance (a)(b):Le (@O6 Cx a b) (O6 a b):=by unfold O6;infer_instance
instance (a):Le (@Q3 Cx a) (Q3 a):=by unfold Q3;infer_instance
instance (a)(b):Le (@O7 Cx a b) (O7 a b):=by unfold O7;infer_instance
instance (a):Le (@Q4 Cx a) (Q4 a):=by unfold Q4;infer_instance
instance (a)(b):Le (@P5 Cx a b) (P5 a b):=by unfold P5;infer_instance
instance (a)(b):Le (@M7 Cx a b) (M7 a b):=by unfold M7;infer_instance
instance (a):Le (@W6 Cx a) (W6 a):=by unfold W6;infer_instance
instance (a)(b):Le (@R4 Cx a b) (R4 a b):=by unfold R4;infer_instance
instance (a)(b):Le (@F8 Cx a b) (F8 a b):=by unfold F8;infer_instance
instance (a)(b)(c):Le (@W7 Cx a b c) (W7 a b c):=by unfold W7;infer_instance
instance (a)(b):Le (@Z4 Cx a b) (Z4 a b):=by unfold Z4;infer_instance
instance (a)(b)(c):Le (@V9 Cx a b c) (V9 a b c):=by unfold V9;infer_instance
instance (a)(b):Le (@Bg Cx a b) (Bg a b):=by unfold Bg;infer_instance
instance (a)(b)(c):Le (@Cc Cx a b c) (Cc a b c):=by unfold Cc;infer_instance
instance (a)(b):Le (@Hb Cx a b) (Hb a b):=by unfold Hb;infer_instance
instance (a)(b)(c):Le (@In Cx a b c) (In a b c):=by unfold In;infer_instance
instance (a)(b):Le (@G9 Cx a b) (G9 a b):=by unfold G9;infer_instance
instance (a)(b):Le (@X9 Cx a b) (X9 a b):=by unfold X9;infer_instance
instance (a)(b)(c)(d):Le (@W8 Cx a b c d) (W8 a b c d):=by unfold W8;infer_instance
instance (a)(b)(c):Le (@Ar Cx a b c) (Ar a b c):=by unfold Ar;infer_instance
instance (a)(b):Le (@Ac Cx a b) (Ac a b):=by unfold Ac;infer_instance
instance (a):Le (@Eb Cx a) (Eb a):=by unfold Eb;infer_instance
instance (a)(b)(c):Le (@G6 Cx a b c) (G6 a b c):=by unfold G6;infer_instance
instance (a)(b)(c):Le (@G1 Cx a b c) (G1 a b c):=by unfold G1;infer_instance
instance (a)(b)(c):Le (@Bc Cx a b c) (Bc a b c):=by unfold Bc;infer_instance
instance (a)(b)(c):Le (@R5 Cx a b c) (R5 a b c):=by unfold R5;infer_instance
instance (a)(b)(c)(d):Le (@F0 Cx a b c d) (F0 a b c d):=by unfold F0;infer_instance
instance (a)(b)(c):Le (@G5 Cx a b c) (G5 a b c):=by unfold G5;infer_instance
instance (a)(b)(c):Le (@F9 Cx a b c) (F9 a b c):=by unfold F9;infer_instance
instance (a)(b)(c)(d):Le (@R6 Cx a b c d) (R6 a b c d):=by unfold R6;infer_instance
instance (a)(b)(c)(d)(e):Le (@E8 Cx a b c d e) (E8 a b c d e):=by unfold E8;infer_instance
instance (a)(b)(c)(d):Le (@G2 Cx a b c d) (G2 a b c d):=by unfold G2;infer_instance
instance (a)(b)(c)(d):Le (@E9 Cx a b c d) (E9 a b c d):=by unfold E9;infer_instance
instance (a)(b):Le (@W9 Cx a b) (W9 a b):=by unfold W9;infer_instance
instance (a):Le (@As Cx a) (As a):=by unfold As;infer_instance
instance (a)(b)(c)(d):Le (@X0 Cx a b c d) (X0 a b c d):=by unfold X0;infer_instance
instance (a)(b):Le (@X1 Cx a b) (X1 a b):=by unfold X1;infer_instance
instance (a):Le (@Au Cx a) (Au a):=by unfold Au;infer_instance
instance (a)(b)(c):Le (@U5 Cx a b c) (U5 a b c):=by unfold U5;infer_instance
instance (a)(b):Le (@T8 Cx a b) (T8 a b):=by unfold T8;infer_instance
instance (a)(b)(c):Le (@Db Cx a b c) (Db a b c):=by unfold Db;infer_instance
instance (a)(b)(c)(d)(e)(f):Le (@I8 Cx a b c d e f) (I8 a b c d e f):=by unfold I8;infer_instance
instance (a)(b)(c)(d)(e):Le (@M3 Cx a b c d e) (M3 a b c d e):=by unfold M3;infer_instance
instance (a)(b)(c):Le (@M4 Cx a b c) (M4 a b c):=by unfold M4;infer_instance
instance (a)(b):Le (@N8 Cx a b) (N8 a b):=by unfold N8;infer_instance
instance (a):Le (@Co Cx a) (Co a):=by unfold Co;infer_instance
instance (a)(b)(c):Le (@R7 Cx a b c) (R7 a b c):=by unfold R7;infer_instance
instance (a)(b)(c)(d):Le (@E3 Cx a b c d) (E3 a b c d):=by unfold E3;infer_instance
instance (a)(b)(c):Le (@F7 Cx a b c) (F7 a b c):=by unfold F7;infer_instance
instance (a)(b)(c):Le (@E4 Cx a b c) (E4 a b c):=by unfold E4;infer_instance
instance (a)(b)(c)(d):Le (@S7 Cx a b c d) (S7 a b c d):=by unfold S7;infer_instance
instance (a)(b)(c)(d)(e)(f)(g):Le (@I4 Cx a b c d e f g) (I4 a b c d e f g):=by unfold I4;infer_instance
instance (a)(b)(c)(d)(e)(f):Le (@K9 Cx a b c d e f) (K9 a b c d e f):=by unfold K9;infer_instance
instance (a)(b)(c)(d):Le (@L4 Cx a b c d) (L4 a b c d):=by unfold L4;infer_instance
instance (a)(b)(c):Le (@N1 Cx a b c) (N1 a b c):=by unfold N1;infer_instance
instance (a):Le (@Av Cx a) (Av a):=by unfold Av;infer_instance
instance (a):Le (@Lj Cx a) (Lj a):=by unfold Lj;infer_instance
instance (a)(b):Le (@Mf Cx a b) (Mf a b):=by unfold Mf;infer_instance
instance (a)(b):Le (@Hc Cx a b) (Hc a b):=by unfold Hc;infer_instance
instance (a)(b)(c)(d):Le (@Io Cx a b c d) (Io a b c d):=by unfold Io;infer_instance
instance law03_awake_le:Le (@Ec Cx) (Ec):=by unfold Ec;infer_instance
theorem Fe (n:Int): ∃y,Cz n=some (y,y*y==n)∧0≤y∧y≤67108864∧(∀m,0≤m→m<y→m*m<n)∧(y=67108864∨n≤y*y):=by
  have key:=GU (f:=Ho n) (fun x=>0≤x.1∧x.1≤x.2∧x.2≤67108864∧(∀m,0≤m→m<x.1→m*m<n)∧(x.2=67108864∨n≤x.2*x.2)) (fun x=>(x.2 - x.1).toNat)
    (fun y=>0≤y∧y≤67108864∧(∀m,0≤m→m<y→m*m<n)∧(y=67108864∨n≤y*y)) (by
      rintro ⟨lo,hi⟩ ⟨h1,h2,h3,h4,h5⟩
      dsimp only at h1 h2 h3 h4 h5
      unfold Ho
      dsimp only
      by_cases hlt:lo<hi
      ·have e1:C8 (lo+hi)=lo+hi:=E0 (by omega)
       have e2:C8 ((lo+hi).tdiv 2)=(lo+hi) / 2:=by rw [Int.tdiv_eq_ediv_of_nonneg (by omega)];exact E0 (by omega)
       have hm:lo≤(lo+hi) / 2∧(lo+hi) / 2<hi:=by omega
       generalize hmid:(lo+hi) / 2=mid at*
       have hmm:mid*mid≤67108864*67108864:=DD (by omega) (by omega)
       have hmm0:=Af mid
       have e3:C8 (mid*mid)=mid*mid:=E0 (by omega)
       have e4:C8 (mid+1)=mid+1:=E0 (by omega)
       simp only [e1,e2,e3,e4,hlt,decide_true,l8]
       by_cases hc:mid*mid<n
       ·simp only [hc,decide_true,l8]
        refine ⟨_,rfl,⟨by omega,by omega,h3,fun m hm0 hm1=> ?_,h5⟩,by dsimp only;omega⟩
        rcases Int.lt_or_le m mid with q|q
        ·have:=Int.mul_le_mul (show m≤mid by omega) (show m≤mid by omega) hm0 (by omega);omega
        ·have:m=mid:=by dsimp only at hm1;omega
         subst this;exact hc
       ·simp only [hc,decide_false,l9]
        exact ⟨_,rfl,⟨h1,by dsimp only;omega,by dsimp only;omega,h4, .inr (by dsimp only;omega)⟩,by dsimp only;omega⟩
      ·simp only [hlt,decide_false,l9]
       obtain rfl:lo=hi:=by omega
       exact ⟨_,rfl,h1,h3,h4,h5⟩) (0,67108864) ⟨by decide,by decide,by decide,fun m h1 h2=>by dsimp only at h2;omega, .inl rfl⟩
  obtain ⟨y,hy,h1,h2,h3,h4⟩:=key
  refine ⟨y,?_,h1,h2,h3,h4⟩
  have hmm:y*y≤67108864*67108864:=DD (by omega) (by omega)
  have hmm0:=Af y
  unfold Cz
  rw [hy,lA,E0 (by omega)]
/-- The least number whose square is not less. -/
noncomputable def rt (n:Int):Int:=(Fe n).choose
theorem Sp (n:Int):Cz n=some (rt n,rt n*rt n==n):=(Fe n).choose_spec.1
theorem Wn (n:Int):0≤rt n:=(Fe n).choose_spec.2.1
theorem XB (n m:Int)(h1:0≤m)(h2:m<rt n):m*m<n:=(Fe n).choose_spec.2.2.2.1 m h1 h2
theorem XC (n:Int):rt n=67108864∨n≤rt n*rt n:=(Fe n).choose_spec.2.2.2.2
theorem QU {l:Int}(h0:0≤l)(h1:l≤67108864):rt (l*l)=l:=by
  rcases Int.lt_trichotomy (rt (l*l)) l with q|q|q
  ·rcases XC (l*l)with h|h
   ·omega
   ·have h2:=Wn (l*l)
    have:=Int.mul_lt_mul' (show rt (l*l)≤l by omega) q h2 (by omega);omega
  ·exact q
  ·have:=XB (l*l) l h0 q;omega
theorem Yg (n:Int)(h0:0≤n)(h1:n<18014398509481984): ∃r,Gf n=some r∧0≤r∧r<134217728∧r*r≤n∧n< (r+1)* (r+1):=by
  have key:=GU (f:=Hq n) (fun x=>0≤x.1∧x.1*x.1≤n∧((∃k:Nat,k≤26∧x.2=2^k∧x.1+2*2^k≤134217728∧n< (x.1+2*2^k)* (x.1+2*2^k))∨(x.2=0∧x.1<134217728∧n< (x.1+1)* (x.1+1)))) (fun x=>x.2.toNat)
    (fun r=>0≤r∧r<134217728∧r*r≤n∧n< (r+1)* (r+1)) (by
      rintro ⟨r,bit⟩ ⟨q1,q2,q3⟩
      dsimp only at q1 q2 q3
      unfold Hq
      dsimp only
      rcases q3 with ⟨k,hk,rfl,q4,q5⟩|⟨rfl,q4,q5⟩
      ·have hp:(0:Int)<2^k:=Int.pow_pos (by decide)
       generalize hb:(2:Int)^k=b at*
       have e1:C8 (r+b)=r+b:=E0 (by omega)
       have hmm:(r+b)* (r+b)≤134217728*134217728:=DD (by omega) (by omega)
       have hmm0:=Af (r+b)
       have e2:C8 ((r+b)* (r+b))=(r+b)* (r+b):=E0 (by omega)
       have e3:C8 (b.tdiv 2)=b / 2:=by rw [Int.tdiv_eq_ediv_of_nonneg (by omega)];exact E0 (by omega)
       have hb0:b>0:=by omega
       simp only [e1,e2,e3,hb0,decide_true,l8]
       have hnext: ∀r',0≤r'→r'*r'≤n→r'+b≤134217728→n< (r'+b)* (r'+b)→(∃j:Nat,j≤26∧b / 2=2^j∧r'+2*2^j≤134217728∧n< (r'+2*2^j)* (r'+2*2^j))∨(b / 2=0∧r'<134217728∧n< (r'+1)* (r'+1)):=by
         intro r' a1 a2 a3 a4
         cases k with
         |zero=>
          have:b=1:=by rw [← hb];rfl
          subst this
          exact .inr ⟨by decide,by omega,a4⟩
         |succ j=>
          have hj:b=2*2^j:=by rw [← hb,Int.pow_succ];omega
          refine .inl ⟨j,by omega,by omega,by omega,by rw [← hj];exact a4⟩
       by_cases hc:(r+b)* (r+b)≤n
       ·simp only [hc,decide_true,l8]
        refine ⟨_,rfl,⟨by dsimp only;omega,hc,hnext (r+b) (by omega) hc (by omega) (by rw [show r+b+b=r+2*b by omega];exact q5)⟩,by dsimp only;omega⟩
       ·simp only [hc,decide_false,l9]
        exact ⟨_,rfl,⟨q1,q2,hnext r q1 q2 (by omega) (by omega)⟩,by dsimp only;omega⟩
      ·simp only [show ¬(0:Int)>0 by decide,decide_false,l9]
       exact ⟨_,rfl,q1,q4,q2,q5⟩) (0,67108864) ⟨by decide,by dsimp only;omega, .inl ⟨26,by decide,by decide,by decide,by dsimp only;omega⟩⟩
  obtain ⟨r,hr,a⟩:=key
  exact ⟨r,by unfold Gf;rw [hr];rfl,a⟩
theorem CK {n:Int}(h0:0≤n)(h1:n≤4503599627370496): ∃r,Gf n=some r∧0≤r∧r<134217728∧(r*r=n↔rt n*rt n=n)∧(r*r=n→r=rt n):=by
  obtain ⟨r,hr,a1,a2,a3,a4⟩:=Yg n h0 (by omega)
  have hr26:r≤67108864:=by
    rcases Int.lt_or_le r 67108865 with q|q
    ·omega
    ·have:=Int.mul_le_mul q q (by decide) (by omega);omega
  refine ⟨r,hr,a1,a2,⟨fun h=> ?_,fun h=> ?_⟩,fun h=> ?_⟩
  ·rw [← h,QU a1 hr26]
  ·rcases Int.lt_trichotomy r (rt n)with q|q|q
   ·have:=Int.mul_le_mul (show r+1≤rt n by omega) (show r+1≤rt n by omega) (by omega) (Wn n);omega
   ·rw [q];exact h
   ·have h2:=Wn n
    have:=Int.mul_lt_mul' (show rt n≤r by omega) q h2 (by omega);omega
  ·rw [← h,QU a1 hr26]
def Na (p:Spot):Bool:=decide (-16777216≤p.X)&&decide (p.X≤16777216)&&decide (-16777216≤p.Y)&&decide (p.Y≤16777216)
theorem okS_iff {p:Spot}:Na p=true↔ -16777216≤p.X∧p.X≤16777216∧ -16777216≤p.Y∧p.Y≤16777216:=by simp [Na,and_assoc]
theorem NB (p:Spot):((decide ((Sj false p.X p.Y)< (-16777216)))||(decide ((Sj true p.X p.Y)>16777216)))= !Na p:=by
  rw [Ry,Ox]
  cases h:Na p with
  |true=>have:=okS_iff.1 h;simp;omega
  |false=>
   have: ¬(-16777216≤p.X∧p.X≤16777216∧ -16777216≤p.Y∧p.Y≤16777216):=fun q=>by rw [okS_iff.2 q]at h;cases h
   simp;omega
theorem CL (l:List Spot)(hl:l.length≤1000000): ∀(r:List Spot) (i:Nat),l.drop i=r→loop (Cy l) (i:Int)=some (if r.all Na then .inl ()else .inr false):=by
  intro r
  induction r with
  |nil=>
   intro i hi
   have:=S8 hi
   refine G7 ?_
   unfold Cy
   simp only [show ¬(i:Int)<l.length by omega,decide_false,l9,List.all_nil,if_true]
  |cons p r ih=>
   intro i hi
   have hlt:=Q7 hi
   have hstep:Cy l (i:Int)=if Na p then some (.go ((i+1:Nat):Int))else some (.out (.inr false)):=by
     unfold Cy
     simp only [show (i:Int)<l.length by omega,decide_true,l8,S5 hi,lA,NB]
     cases h:Na p with
     |true=>simp only [bF,l9,if_true];rw [E0 (by omega)];rfl
     |false=>simp
   cases h:Na p with
   |true=>
    rw [h,bA rfl]at hstep
    rw [M5 hstep,ih (i+1) (M1 hi)]
    simp [h]
   |false=>
    rw [h]at hstep
    rw [G7 hstep]
    simp [h]
theorem CM (l:List Spot)(hl:l.length≤1000000):Ga l=some (l.all Na):=by
  unfold Ga
  have:=CL l hl l 0 (by simp)
  rw [show ((0:Nat):Int)=0 from rfl]at this
  rw [this]
  cases l.all Na<;>rfl
theorem BA (p:Spot):Kj p=some (Na p):=by
  unfold Kj Na;rfl
def N2 (p q:Spot):CurveVector:=⟨q.X - p.X,q.Y - p.Y⟩
def D1 (v w:CurveVector):Int:=v.x*w.x+v.y*w.y
/-- A vector between valid spots. -/
def Yh (v:CurveVector):Prop:= -33554432≤v.x∧v.x≤33554432∧ -33554432≤v.y∧v.y≤33554432
theorem Nb {p q:Spot}(hp:Na p=true)(hq:Na q=true):Yh (N2 p q):=by
  have:=okS_iff.1 hp;have:=okS_iff.1 hq
  unfold Yh N2;dsimp only;omega
theorem Nm {p q:Spot}(hp:Na p=true)(hq:Na q=true):Ie p q=some (N2 p q):=by
  have:=okS_iff.1 hp;have:=okS_iff.1 hq
  unfold Ie N2
  rw [E0 (by omega),E0 (by omega)]
theorem BB {v w:CurveVector}(hv:Yh v)(hw:Yh w): -2251799813685248≤D1 v w∧D1 v w≤2251799813685248∧(-1125899906842624≤v.x*w.x∧v.x*w.x≤1125899906842624)∧ -1125899906842624≤v.y*w.y∧v.y*w.y≤1125899906842624:=by
  obtain ⟨a1,a2,a3,a4⟩:=hv
  obtain ⟨b1,b2,b3,b4⟩:=hw
  have h1:=Z8 ⟨a1,a2⟩ ⟨b1,b2⟩
  have h2:=Z8 ⟨a3,a4⟩ ⟨b3,b4⟩
  unfold D1
  omega
theorem Ay {v w:CurveVector}(hv:Yh v)(hw:Yh w):K8 v w=some (D1 v w):=by
  have h:=BB hv hw
  unfold K8
  rw [E0 (n:=v.x*w.x) (by omega),E0 (n:=v.y*w.y) (by omega),E0 (by unfold D1 at h;omega)]
  rfl
theorem JZ (v:CurveVector):0≤D1 v v:=by have:=Af v.x;have:=Af v.y;unfold D1;omega
def vs (v:CurveVector):Spot:=⟨v.x,v.y⟩
theorem Du {p q:Spot}(hp:Na p=true)(hq:Na q=true):X2 q p=some (vs (N2 p q)):=by
  have:=okS_iff.1 hp;have:=okS_iff.1 hq
  unfold X2 N2 vs
  rw [E0 (by omega),E0 (by omega)]
theorem Ek {v w:CurveVector}(hv:Yh v)(hw:Yh w):Ce (vs v) (vs w)=some (D1 v w):=by
  have h:=BB hv hw
  unfold Ce vs
  dsimp only
  rw [E0 (n:=v.x*w.x) (by omega),E0 (n:=v.y*w.y) (by omega),E0 (by unfold D1 at h;omega)]
  rfl
/-- The error of a chain of points, from a piece on; the piece ahead of it. -/
noncomputable def HK:Option CurveVector→List Spot→Int
  |last,p::q::r=>
   if rt (D1 (N2 p q) (N2 p q))*rt (D1 (N2 p q) (N2 p q))≠D1 (N2 p q) (N2 p q)then 3
   else if rt (D1 (N2 p q) (N2 p q))<1000∨rt (D1 (N2 p q) (N2 p q))>1048576 then 2
   else match last with
     |some u=>if D1 u (N2 p q)≤0 then 12 else HK (some (N2 p q)) (q::r)
     |none=>HK (some (N2 p q)) (q::r)
  |_,_=>0
theorem Vh (last:Option CurveVector)(p q:Spot)(r:List Spot):HK last (p::q::r)=
    if rt (D1 (N2 p q) (N2 p q))*rt (D1 (N2 p q) (N2 p q))≠D1 (N2 p q) (N2 p q)then 3
    else if rt (D1 (N2 p q) (N2 p q))<1000∨rt (D1 (N2 p q) (N2 p q))>1048576 then 2
    else match last with
      |some u=>if D1 u (N2 p q)≤0 then 12 else HK (some (N2 p q)) (q::r)
      |none=>HK (some (N2 p q)) (q::r):=by
  conv=>lhs;unfold HK
noncomputable def U3 (l:List Spot):Int:=if l.length<2 then 6 else if l.length>16 then 5 else if l.all Na then HK none l else 2
theorem BC (c:Curve)(hl:c.Pts.length≤1000000)(hok:c.Pts.all Na=true): ∀(r:List Spot) (p:Spot) (i:Nat) (last:CurveVector),c.Pts.drop i=p::r→Yh last→
    loop (T7 c) ((i:Int),last)=some (if HK (if i=0 then none else some last) (p::r)=0 then .inl ()else .inr (HK (if i=0 then none else some last) (p::r))):=by
  intro r
  induction r with
  |nil=>
   intro p i last hi hlast
   have hlt:=Q7 hi
   have:=S8 (M1 hi)
   refine G7 ?_
   unfold T7
   dsimp only
   rw [E0 (n:=(c.Pts.length:Int) - 1) (by omega)]
   simp only [show ¬(i:Int)< (c.Pts.length:Int) - 1 by omega,decide_false,l9,HK,if_true]
  |cons q r ih=>
   intro p i last hi hlast
   have hlt:=Q7 hi
   have hi1:=M1 hi
   have hlt1:=Q7 hi1
   have hp:Na p=true:=lV.1 hok p (List.mem_of_mem_drop (i:=i) (by rw [hi];simp))
   have hq:Na q=true:=lV.1 hok q (List.mem_of_mem_drop (i:=i) (by rw [hi];simp))
   have hv:=Nb hp hq
   have hg1:E5 c.Pts ((i:Int)+1)=some q:=by have:=S5 hi1;simpa using this
   have hstep:T7 c ((i:Int),last)=
    if rt (D1 (N2 p q) (N2 p q))*rt (D1 (N2 p q) (N2 p q))≠D1 (N2 p q) (N2 p q)then some (.out (.inr 3))
    else if rt (D1 (N2 p q) (N2 p q))<1000∨rt (D1 (N2 p q) (N2 p q))>1048576 then some (.out (.inr 2))
    else if i≠0∧D1 last (N2 p q)≤0 then some (.out (.inr 12))else some (.go (((i+1:Nat):Int),N2 p q)):=by
     unfold T7
     dsimp only
     rw [E0 (n:=(c.Pts.length:Int) - 1) (by omega),E0 (n:=(i:Int)+1) (by omega)]
     simp only [show (i:Int)< (c.Pts.length:Int) - 1 by omega,decide_true,l8,S5 hi,hg1,lA,Nm hp hq,Ay hv hv,Sp]
     by_cases h1:rt (D1 (N2 p q) (N2 p q))*rt (D1 (N2 p q) (N2 p q))=D1 (N2 p q) (N2 p q)
     ·simp only [h1,beq_self_eq_true,bF,l9,ne_eq,not_true_eq_false,if_false]
      by_cases h2:rt (D1 (N2 p q) (N2 p q))<1000∨rt (D1 (N2 p q) (N2 p q))>1048576
      ·rw [bA h2]
       have:(decide (rt (D1 (N2 p q) (N2 p q))<1000)||decide (rt (D1 (N2 p q) (N2 p q))>1048576))=true:=by simpa using h2
       rw [this];rfl
      ·rw [bB h2]
       have:(decide (rt (D1 (N2 p q) (N2 p q))<1000)||decide (rt (D1 (N2 p q) (N2 p q))>1048576))=false:=by simpa using h2
       rw [this]
       simp only [l9]
       by_cases h3:i=0
       ·subst h3
        simp only [Int.natCast_zero,gt_iff_lt,Int.lt_irrefl,decide_false,l9,Bool.false_and,lA,not_true_eq_false,false_and,if_false]
        rfl
       ·have h4:(i:Int)>0:=by omega
        simp only [h4,decide_true,l8,Ay hlast hv,lA,bC,h3,not_false_eq_true,true_and]
        by_cases h5:D1 last (N2 p q)≤0<;>simp [h5]
     ·have:(rt (D1 (N2 p q) (N2 p q))*rt (D1 (N2 p q) (N2 p q))==D1 (N2 p q) (N2 p q))=false:=by simpa using h1
      simp only [this,bG,l8,ne_eq,h1,not_false_eq_true,if_true]
   rw [Vh]
   by_cases h1:rt (D1 (N2 p q) (N2 p q))*rt (D1 (N2 p q) (N2 p q))≠D1 (N2 p q) (N2 p q)
   ·rw [bA h1]at hstep
    rw [G7 hstep,bA h1];rfl
   ·rw [bB h1]at hstep ⊢
    by_cases h2:rt (D1 (N2 p q) (N2 p q))<1000∨rt (D1 (N2 p q) (N2 p q))>1048576
    ·rw [bA h2]at hstep
     rw [G7 hstep,bA h2];rfl
    ·rw [bB h2]at hstep ⊢
     by_cases h3:i=0
     ·subst h3
      rw [bB (by simp)]at hstep
      rw [M5 hstep,ih q (0+1) (N2 p q) hi1 hv]
      simp
     ·by_cases h5:D1 last (N2 p q)≤0
      ·rw [bA ⟨h3,h5⟩]at hstep
       rw [G7 hstep]
       simp [h3,h5]
      ·rw [bB (fun h=>h5 h.2)]at hstep
       rw [M5 hstep,ih q (i+1) (N2 p q) hi1 hv]
       simp [h3,h5]
theorem Jm (c:Curve)(hl:c.Pts.length≤1000000):Aa c=some (U3 c.Pts):=by
  unfold Aa U3
  by_cases h1:c.Pts.length<2
  ·rw [bA h1,show decide ((c.Pts.length:Int)<2)=true by simp;omega];rfl
  ·rw [bB h1,show decide ((c.Pts.length:Int)<2)=false by simp;omega]
   simp only [l9]
   by_cases h2:c.Pts.length>16
   ·rw [bA h2,show decide ((c.Pts.length:Int)>16)=true by simp;omega];rfl
   ·rw [bB h2,show decide ((c.Pts.length:Int)>16)=false by simp;omega]
    simp only [l9,CM c.Pts hl,lA]
    cases h3:c.Pts.all Na with
    |false=>rfl
    |true=>
     simp only [bF,l9,if_true]
     cases hp:c.Pts with
     |nil=>rw [hp]at h1;simp at h1
     |cons p r=>
      have:=BC c hl h3 r p 0 ⟨0,0⟩ (by rw [hp];rfl) ⟨by decide,by decide,by decide,by decide⟩
      rw [bA rfl,show ((0:Nat):Int)=0 from rfl]at this
      rw [this]
      by_cases h4:HK none (p::r)=0
      ·rw [bA h4,h4];rfl
      ·rw [bB h4];rfl
theorem NC (v w:CurveVector):D1 v w=D1 w v:=by unfold D1;rw [Int.mul_comm v.x,Int.mul_comm v.y]
theorem Yi (c:Curve)(hl:c.Pts.length≤1000000): ∀(r:List Spot) (i:Nat),c.Pts.drop i=r→loop (Br c) (i:Int)=some (if r.all Na then .inl ()else .inr 2):=by
  intro r
  induction r with
  |nil=>
   intro i hi
   have:=S8 hi
   refine G7 ?_
   unfold Br
   simp only [show ¬(i:Int)<c.Pts.length by omega,decide_false,l9,List.all_nil,if_true]
  |cons p r ih=>
   intro i hi
   have hlt:=Q7 hi
   have hstep:Br c (i:Int)=if Na p then some (.go ((i+1:Nat):Int))else some (.out (.inr 2)):=by
     unfold Br
     simp only [show (i:Int)<c.Pts.length by omega,decide_true,l8,S5 hi,lA,BA]
     cases h:Na p with
     |true=>simp only [bF,l9,if_true];rw [E0 (by omega)];rfl
     |false=>simp
   cases h:Na p with
   |true=>
    rw [h,bA rfl]at hstep
    rw [M5 hstep,ih (i+1) (M1 hi)]
    simp [h]
   |false=>
    rw [h]at hstep
    rw [G7 hstep]
    simp [h]
theorem QV {v:CurveVector}(hv:Yh v): ∃l,Gf (D1 v v)=some l∧(C8 (l*l) !=D1 v v)= !(rt (D1 v v)*rt (D1 v v)==D1 v v)∧(rt (D1 v v)*rt (D1 v v)=D1 v v→l=rt (D1 v v)):=by
  have hb:=BB hv hv
  obtain ⟨l,h1,h2,h3,h4,h5⟩:=CK (JZ v) (by omega)
  have hmm:l*l≤134217728*134217728:=DD (by omega) (by omega)
  have hmm0:=Af l
  refine ⟨l,h1,?_,fun h=>h5 (h4.2 h)⟩
  rw [E0 (by omega)]
  by_cases h:l*l=D1 v v
  ·simp [h,h4.1 h]
  ·have h': ¬rt (D1 v v)*rt (D1 v v)=D1 v v:=fun q=>h (h4.2 q)
   have e1:(l*l !=D1 v v)=true:=bne_iff_ne.2 h
   have e2:(rt (D1 v v)*rt (D1 v v)==D1 v v)=false:=beq_eq_false_iff_ne.2 h'
   rw [e1,e2];rfl
theorem Yj (c:Curve)(hl:c.Pts.length≤1000000)(hok:c.Pts.all Na=true): ∀(r:List Spot) (p:Spot) (i:Nat) (last:Option CurveVector),c.Pts.drop i=p::r→
    (i=0∧last=none∨∃j a,i=j+1∧c.Pts.drop j=a::p::r∧last=some (N2 a p))→
    loop (Bq c) (i:Int)=some (if HK last (p::r)=0 then .inl ()else .inr (HK last (p::r))):=by
  intro r
  induction r with
  |nil=>
   intro p i last hi hlast
   have hlt:=Q7 hi
   have:=S8 (M1 hi)
   refine G7 ?_
   unfold Bq
   rw [E0 (n:=(i:Int)+1) (by omega)]
   simp only [show ¬(i:Int)+1< (c.Pts.length:Int) by omega,decide_false,l9,HK,if_true]
  |cons q r ih=>
   intro p i last hi hlast
   have hlt:=Q7 hi
   have hi1:=M1 hi
   have hlt1:=Q7 hi1
   have hp:Na p=true:=lV.1 hok p (List.mem_of_mem_drop (i:=i) (by rw [hi];simp))
   have hq:Na q=true:=lV.1 hok q (List.mem_of_mem_drop (i:=i) (by rw [hi];simp))
   have hv:=Nb hp hq
   have hg1:E5 c.Pts ((i:Int)+1)=some q:=by have:=S5 hi1;simpa using this
   obtain ⟨l,hl1,hl2,hl3⟩:=QV hv
   have hstep:Bq c (i:Int)=
    if rt (D1 (N2 p q) (N2 p q))*rt (D1 (N2 p q) (N2 p q))≠D1 (N2 p q) (N2 p q)then some (.out (.inr 3))
    else if rt (D1 (N2 p q) (N2 p q))<1000∨rt (D1 (N2 p q) (N2 p q))>1048576 then some (.out (.inr 2))
    else match last with
      |some u=>if D1 u (N2 p q)≤0 then some (.out (.inr 12))else some (.go ((i+1:Nat):Int))
      |none=>some (.go ((i+1:Nat):Int)):=by
     unfold Bq
     rw [E0 (n:=(i:Int)+1) (by omega)]
     simp only [show (i:Int)+1< (c.Pts.length:Int) by omega,decide_true,l8,S5 hi,hg1,lA,Du hp hq,Ek hv hv,hl1,hl2]
     by_cases h1:rt (D1 (N2 p q) (N2 p q))*rt (D1 (N2 p q) (N2 p q))=D1 (N2 p q) (N2 p q)
     ·simp only [h1,beq_self_eq_true,bF,l9,ne_eq,not_true_eq_false,if_false,hl3 h1]
      by_cases h2:rt (D1 (N2 p q) (N2 p q))<1000∨rt (D1 (N2 p q) (N2 p q))>1048576
      ·rw [bA h2]
       have:(decide (rt (D1 (N2 p q) (N2 p q))<1000)||decide (rt (D1 (N2 p q) (N2 p q))>1048576))=true:=by simpa using h2
       rw [this];rfl
      ·rw [bB h2]
       have:(decide (rt (D1 (N2 p q) (N2 p q))<1000)||decide (rt (D1 (N2 p q) (N2 p q))>1048576))=false:=by simpa using h2
       rw [this]
       simp only [l9]
       rcases hlast with ⟨rfl,rfl⟩|⟨j,a,rfl,hj,rfl⟩
       ·simp only [Int.natCast_zero,gt_iff_lt,Int.lt_irrefl,decide_false,l9,Bool.false_and,lA]
        rfl
       ·have h4:(((j+1:Nat):Int))>0:=by omega
        have ha:Na a=true:=lV.1 hok a (List.mem_of_mem_drop (i:=j) (by rw [hj];simp))
        have hva:=Nb ha hp
        have hgj:E5 c.Pts (C8 (((j+1:Nat):Int) - 1))=some a:=by
          rw [E0 (by omega),show (((j+1:Nat):Int) - 1)=(j:Int) by omega]
          exact S5 hj
        simp only [h4,decide_true,l8,hgj,lA,Du ha hp,Ek hv hva,bC]
        rw [NC (N2 p q) (N2 a p)]
        by_cases h5:D1 (N2 a p) (N2 p q)≤0
        ·simp [h5]
        ·simp [h5]
     ·have:(rt (D1 (N2 p q) (N2 p q))*rt (D1 (N2 p q) (N2 p q))==D1 (N2 p q) (N2 p q))=false:=by simpa using h1
      simp only [this,bG,l8,ne_eq,h1,not_false_eq_true,if_true]
   rw [Vh]
   have hrec:=ih q (i+1) (some (N2 p q)) hi1 (.inr ⟨i,p,rfl,hi,rfl⟩)
   by_cases h1:rt (D1 (N2 p q) (N2 p q))*rt (D1 (N2 p q) (N2 p q))≠D1 (N2 p q) (N2 p q)
   ·rw [bA h1]at hstep
    rw [G7 hstep,bA h1];rfl
   ·rw [bB h1]at hstep ⊢
    by_cases h2:rt (D1 (N2 p q) (N2 p q))<1000∨rt (D1 (N2 p q) (N2 p q))>1048576
    ·rw [bA h2]at hstep
     rw [G7 hstep,bA h2];rfl
    ·rw [bB h2]at hstep ⊢
     cases last with
     |none=>rw [M5 hstep,hrec]
     |some u=>
      dsimp only at hstep ⊢
      by_cases h5:D1 u (N2 p q)≤0
      ·rw [bA h5]at hstep
       rw [G7 hstep];simp [h5]
      ·rw [bB h5]at hstep
       rw [M5 hstep,hrec];simp [h5]
theorem Rj (c:Curve)(hl:c.Pts.length≤1000000):Iq c=some (U3 c.Pts):=by
  unfold Iq U3
  by_cases h1:c.Pts.length<2
  ·rw [bA h1,show decide ((c.Pts.length:Int)<2)=true by simp;omega];rfl
  ·rw [bB h1,show decide ((c.Pts.length:Int)<2)=false by simp;omega]
   simp only [l9]
   by_cases h2:c.Pts.length>16
   ·rw [bA h2,show decide ((c.Pts.length:Int)>16)=true by simp;omega];rfl
   ·rw [bB h2,show decide ((c.Pts.length:Int)>16)=false by simp;omega]
    have hg:=Yi c hl c.Pts 0 (by simp)
    rw [show ((0:Nat):Int)=0 from rfl]at hg
    simp only [l9,hg]
    cases h3:c.Pts.all Na with
    |false=>rfl
    |true=>
     simp only [if_true,thenS]
     cases hp:c.Pts with
     |nil=>rw [hp]at h1;simp at h1
     |cons p r=>
      have:=Yj c hl h3 r p 0 none (by rw [hp];rfl) (.inl ⟨rfl,rfl⟩)
      rw [show ((0:Nat):Int)=0 from rfl]at this
      rw [this]
      by_cases h4:HK none (p::r)=0
      ·rw [bA h4,h4]
      ·rw [bB h4]
/-- What a valid chain is. -/
inductive Good:Option CurveVector→List Spot→Prop
  |one (last:Option CurveVector) (p:Spot):Good last [p]
  |cons (last:Option CurveVector) (p q:Spot) (r:List Spot) (h1:rt (D1 (N2 p q) (N2 p q))*rt (D1 (N2 p q) (N2 p q))=D1 (N2 p q) (N2 p q)) (h2:1000≤rt (D1 (N2 p q) (N2 p q))) (h3:rt (D1 (N2 p q) (N2 p q))≤1048576)
     (h4: ∀u,last=some u→0<D1 u (N2 p q)) (h:Good (some (N2 p q)) (q::r)):Good last (p::q::r)
theorem HL: ∀(r:List Spot) (p:Spot) (last:Option CurveVector),HK last (p::r)=0→Good last (p::r):=by
  intro r
  induction r with
  |nil=>intro p last _;exact .one _ _
  |cons q r ih=>
   intro p last h
   rw [Vh]at h
   split at h
   ·cases h
   ·rename_i h1
    split at h
    ·cases h
    ·rename_i h2
     have h1:rt (D1 (N2 p q) (N2 p q))*rt (D1 (N2 p q) (N2 p q))=D1 (N2 p q) (N2 p q):=by simpa using h1
     cases last with
     |none=>exact .cons _ _ _ _ h1 (by omega) (by omega) (fun u hu=>by cases hu) (ih q _ h)
     |some u=>
      dsimp only at h
      split at h
      ·cases h
      ·exact .cons _ _ _ _ h1 (by omega) (by omega) (fun u' hu=>by cases hu;omega) (ih q _ h)
theorem HM {last:Option CurveVector}{l:List Spot}(h:Good last l):HK last l=0:=by
  induction h with
  |one=>rfl
  |cons last p q r h1 h2 h3 h4 h ih=>
   rw [Vh,bB (by simpa using h1),bB (by omega)]
   cases last with
   |none=>exact ih
   |some u=>dsimp only;rw [bB (by have:=h4 u rfl;omega)];exact ih
structure Valid (l:List Spot):Prop where
  two:2≤l.length
  most:l.length≤16
  ok:l.all Na=true
  good:Good none l
theorem checkM_zero {l:List Spot}:U3 l=0↔Valid l:=by
  unfold U3
  constructor
  ·intro h
   split at h
   ·cases h
   ·rename_i h1
    split at h
    ·cases h
    ·rename_i h2
     split at h
     ·rename_i h3
      cases l with
      |nil=>simp at h1
      |cons p r=>exact ⟨by omega,by omega,h3,HL r p none h⟩
     ·cases h
  ·rintro ⟨h1,h2,h3,h4⟩
   rw [bB (by omega),bB (by omega),bA h3]
   exact HM h4
/-- The pieces of a chain: the number, the piece. -/
noncomputable def Dj:Nat→Int→List Spot→List (Int×CurvePiece)
  |i,s,p::q::r=>((i:Int),⟨p,N2 p q,rt (D1 (N2 p q) (N2 p q)),s⟩)::Dj (i+1) (C8 (s+rt (D1 (N2 p q) (N2 p q)))) (q::r)
  |_,_,_=> []
theorem Pc (i:Nat)(s:Int)(p q:Spot)(r:List Spot):Dj i s (p::q::r)=((i:Int),⟨p,N2 p q,rt (D1 (N2 p q) (N2 p q)),s⟩)::Dj (i+1) (C8 (s+rt (D1 (N2 p q) (N2 p q)))) (q::r):=by conv=>lhs;unfold Dj
theorem HN (pts:List Spot)(hok:pts.all Na=true): ∀(r:List Spot) (p:Spot) (i:Nat) (s:Int),pts.drop i=p::r→Eo pts r.length i s=some (Dj i s (p::r)):=by
  intro r
  induction r with
  |nil=>intro p i s _;rfl
  |cons q r ih=>
   intro p i s hi
   have hi1:=M1 hi
   have hp:Na p=true:=lV.1 hok p (List.mem_of_mem_drop (i:=i) (by rw [hi];simp))
   have hq:Na q=true:=lV.1 hok q (List.mem_of_mem_drop (i:=i) (by rw [hi];simp))
   have hv:=Nb hp hq
   have h0:pts[i]? =some p:=by have:=congrArg (fun z=>z[0]?) hi;simpa using this
   have h1:pts[i+1]? =some q:=by have:=congrArg (fun z=>z[0]?) hi1;simpa using this
   rw [lJ,Eo,h0,h1]
   simp only [lA,Nm hp hq,Ay hv hv,Sp]
   rw [ih q (i+1) _ hi1,Pc]
   rfl
theorem Tt {pts:List Spot}(h:Valid pts):Ha pts=some (Dj 0 0 pts):=by
  unfold Ha
  have:=h.most
  rw [bA (by omega)]
  cases hp:pts with
  |nil=>have:=h.two;rw [hp]at this;simp at this
  |cons p r=>exact HN (p::r) (by rw [← hp];exact h.ok) r p 0 0 rfl
/-- The lengths. -/
noncomputable def Jn:List Spot→List Int
  |p::q::r=>rt (D1 (N2 p q) (N2 p q))::Jn (q::r)
  |_=> []
theorem Ll (p q:Spot)(r:List Spot):Jn (p::q::r)=rt (D1 (N2 p q) (N2 p q))::Jn (q::r):=by conv=>lhs;unfold Jn
theorem Nc: ∀(r:List Spot) (p:Spot),(Jn (p::r)).length=r.length
  | [],_=>rfl
  |q::r,p=>by rw [Ll,lJ,Nc r q,lJ]
theorem Vi: ∀(r:List Spot) (p:Spot) (i:Nat) (s:Int),(Dj i s (p::r)).map (·.2.l)=Jn (p::r)
  | [],_,_,_=>rfl
  |q::r,p,i,s=>by rw [Pc,Ll,lN,Vi r q]
theorem HO: ∀(L:List (Int×CurvePiece)) (out:List Int),out.length+L.length≤1000000000→loopL Cb (fun x=>x) L out=some (out++L.map (·.2.l)):=by
  intro L
  induction L with
  |nil=>intro out _;simp [loopL]
  |cons a L ih=>
   intro out h
   simp only [lJ]at h
   have:Cb out a=some (.go (out++ [a.2.l])):=by
     unfold Cb
     rw [V0 (by simp;omega)];rfl
   rw [loopL,this]
   dsimp only
   rw [ih _ (by simp;omega)]
   simp
theorem Yk (c:Curve)(hl:c.Pts.length≤1000000):Ck c=some (if U3 c.Pts=0 then Jn c.Pts else []):=by
  unfold Ck
  rw [Jm c hl,lA]
  by_cases h:U3 c.Pts=0
  ·rw [bA h,h]
   have hv:=checkM_zero.1 h
   have:=hv.most
   simp only [bne_self_eq_false,l9,Tt hv,lA]
   cases hp:c.Pts with
   |nil=>have:=hv.two;rw [hp]at this;simp at this
   |cons p r=>
    have e:=Vi r p 0 0
    rw [HO _ _ (by
     have:=congrArg List.length e
     rw [lO,Nc]at this
     rw [this];rw [hp]at hl;simp at hl ⊢;omega)]
    rw [e];rfl
  ·rw [bB h,show (U3 c.Pts !=0)=true from bne_iff_ne.2 h];rfl
theorem Vj (c:Curve)(hl:c.Pts.length≤1000000)(hok:c.Pts.all Na=true): ∀(r:List Spot) (p:Spot) (i:Nat) (out:List Int) (last:Option CurveVector),c.Pts.drop i=p::r→Good last (p::r)→out.length+r.length≤1000000→
    loop (An c) (out,(i:Int))=some (out++Jn (p::r)):=by
  intro r
  induction r with
  |nil=>
   intro p i out last hi _ _
   have hlt:=Q7 hi
   have:=S8 (M1 hi)
   refine G7 ?_
   unfold An
   dsimp only
   rw [E0 (n:=(i:Int)+1) (by omega)]
   simp only [show ¬(i:Int)+1< (c.Pts.length:Int) by omega,decide_false,l9,Jn,List.append_nil]
  |cons q r ih=>
   intro p i out last hi hg ho
   have hlt:=Q7 hi
   have hi1:=M1 hi
   have hlt1:=Q7 hi1
   have hp:Na p=true:=lV.1 hok p (List.mem_of_mem_drop (i:=i) (by rw [hi];simp))
   have hq:Na q=true:=lV.1 hok q (List.mem_of_mem_drop (i:=i) (by rw [hi];simp))
   have hv:=Nb hp hq
   have hg1:E5 c.Pts ((i:Int)+1)=some q:=by have:=S5 hi1;simpa using this
   obtain ⟨l,hl1,hl2,hl3⟩:=QV hv
   cases hg with
   |cons _ _ _ _ h1 h2 h3 h4 hg=>
    have hll:=hl3 h1
    subst hll
    simp only [lJ]at ho
    have hstep:An c (out,(i:Int))=some (.go (out++ [rt (D1 (N2 p q) (N2 p q))],((i+1:Nat):Int))):=by
      unfold An
      dsimp only
      rw [E0 (n:=(i:Int)+1) (by omega)]
      simp only [show (i:Int)+1< (c.Pts.length:Int) by omega,decide_true,l8,S5 hi,hg1,lA,Du hp hq,Ek hv hv,hl1]
      rw [V0 (by simp;omega)]
      rfl
    rw [M5 hstep,ih q (i+1) _ _ hi1 hg (by simp;omega),Ll]
    simp
theorem Pt (c:Curve)(hl:c.Pts.length≤1000000):Hf c=some (if U3 c.Pts=0 then Jn c.Pts else []):=by
  unfold Hf
  rw [Rj c hl,lA]
  by_cases h:U3 c.Pts=0
  ·rw [bA h,h]
   have hv:=checkM_zero.1 h
   simp only [bne_self_eq_false,l9]
   cases hp:c.Pts with
   |nil=>have:=hv.two;rw [hp]at this;simp at this
   |cons p r=>
    have:=Vj c hl hv.ok r p 0 [] none (by rw [hp];rfl) (by rw [← hp];exact hv.good) (by rw [hp]at hl;simp at hl ⊢;omega)
    rw [show ((0:Nat):Int)=0 from rfl]at this
    rw [this];rfl
  ·rw [bB h,show (U3 c.Pts !=0)=true from bne_iff_ne.2 h];rfl
/-- A sum, as the programs take it. -/
def Tu:Int→List Int→Int
  |s,[]=>s
  |s,a::l=>Tu (C8 (s+a)) l
theorem Vk (l:List Int)(hl:l.length≤1000000): ∀(r:List Int) (i:Nat) (s:Int),l.drop i=r→loop (W5 l) (s,(i:Int))=some (Tu s r):=by
  intro r
  induction r with
  |nil=>
   intro i s hi
   have:=S8 hi
   refine G7 ?_
   unfold W5
   simp only [show ¬(i:Int)<l.length by omega,decide_false,l9,Tu]
  |cons a r ih=>
   intro i s hi
   have hlt:=Q7 hi
   have hstep:W5 l (s,(i:Int))=some (.go (C8 (s+a),((i+1:Nat):Int))):=by
     unfold W5
     simp only [show (i:Int)<l.length by omega,decide_true,l8,S5 hi,lA]
     rw [E0 (n:=(i:Int)+1) (by omega)];rfl
   rw [M5 hstep,ih (i+1) _ (M1 hi),Tu]
theorem Vl (l:List Int)(hl:l.length≤1000000): ∀(r:List Int) (i:Nat) (s:Int),l.drop i=r→loop (X3 l) (s,(i:Int))=some (Tu s r):=by
  intro r
  induction r with
  |nil=>
   intro i s hi
   have:=S8 hi
   refine G7 ?_
   unfold X3
   simp only [show ¬(i:Int)<l.length by omega,decide_false,l9,Tu]
  |cons a r ih=>
   intro i s hi
   have hlt:=Q7 hi
   have hstep:X3 l (s,(i:Int))=some (.go (C8 (s+a),((i+1:Nat):Int))):=by
     unfold X3
     simp only [show (i:Int)<l.length by omega,decide_true,l8,S5 hi,lA]
     rw [E0 (n:=(i:Int)+1) (by omega)];rfl
   rw [M5 hstep,ih (i+1) _ (M1 hi),Tu]
noncomputable def Ib (c:Curve):List Int:=if U3 c.Pts=0 then Jn c.Pts else []
theorem UL: ∀l:List Spot,(Jn l).length≤l.length
  | []=>by simp [Jn]
  |p::r=>by rw [Nc];simp
theorem BD (c:Curve):(Ib c).length≤c.Pts.length:=by
  unfold Ib
  split
  ·exact UL _
  ·simp
theorem Yl (c:Curve)(hl:c.Pts.length≤1000000):Cl c=some (Tu 0 (Ib c)):=by
  unfold Cl
  rw [Yk c hl,lA]
  have:=BD c
  have h:=Vk (Ib c) (by omega) (Ib c) 0 0 (by simp)
  rw [show ((0:Nat):Int)=0 from rfl]at h
  show (loop (W5 (Ib c)) (0,0)).bind _=_
  rw [h];rfl
theorem Ym (c:Curve)(hl:c.Pts.length≤1000000):Cs c=some (Tu 0 (Ib c)):=by
  unfold Cs
  rw [Pt c hl,lA]
  have:=BD c
  have h:=Vl (Ib c) (by omega) (Ib c) 0 0 (by simp)
  rw [show ((0:Nat):Int)=0 from rfl]at h
  show (loop (X3 (Ib c)) (0,0)).bind _=_
  rw [h];rfl
/-- A quarter turn, so many times. -/
def ND:Nat→CurveVector→CurveVector
  |0,v=>v
  |n+1,v=>ND n ⟨-v.y,v.x⟩
theorem FE: ∀(n:Nat) (v w:CurveVector),D1 (ND n v) (ND n w)=D1 v w
  |0,_,_=>rfl
  |n+1,v,w=>by rw [ND,ND,FE n];unfold D1;grind
/-- A piece's vector, made of numbers: in one quadrant. -/
def XD (n:Nat)(v:CurveVector):Prop:= ∃x y L:Int,v=ND n ⟨x,y⟩∧0<x∧0≤y∧x*x+y*y=L*L∧1000≤L∧L≤3029∧x≤L∧y≤L
inductive Ch (Q:CurveVector→Prop):List Spot→Prop
  |one (p:Spot):Ch Q [p]
  |cons (p q:Spot) (r:List Spot) (h:Q (N2 p q)) (hr:Ch Q (q::r)):Ch Q (p::q::r)
theorem BE {n:Nat}: ∀(r:List Spot) (p:Spot) (last:Option CurveVector),Ch (XD n) (p::r)→(∀u,last=some u→XD n u)→Good last (p::r)
  | [],p,last,_,_=> .one _ _
  |q::r,p,last,hc,hl=>by
   cases hc with
   |cons _ _ _ h1 h2=>
    have hq:=h1
    obtain ⟨x,y,L,hv,hx,hy,hsq,hL1,hL2,hxL,hyL⟩:=h1
    have hd:D1 (N2 p q) (N2 p q)=L*L:=by rw [hv,FE];unfold D1;exact hsq
    have hrt:rt (D1 (N2 p q) (N2 p q))=L:=by rw [hd];exact QU (by omega) (by omega)
    refine .cons _ _ _ _ (by rw [hrt,hd]) (by rw [hrt];exact hL1) (by rw [hrt];omega) (fun u hu=> ?_) (BE r q _ h2 (fun u hu=>by cases hu;exact hq))
    obtain ⟨x',y',L',hv',hx',hy',_⟩:=hl u hu
    rw [hv,hv',FE]
    unfold D1
    have:=Int.mul_pos hx' hx
    have:=bU hy' hy
    dsimp only
    omega
/-- What the curves made of numbers are like. -/
structure Made (l:List Spot):Prop where
  two:2≤l.length
  six:l.length≤6
  ch: ∃n,Ch (XD n) l
  bd: ∀p∈l, -50000≤p.X∧p.X≤50000∧ -50000≤p.Y∧p.Y≤50000
theorem Made.valid {l:List Spot}(h:Made l):Valid l:=by
  obtain ⟨n,hc⟩:=h.ch
  have:=h.two;have:=h.six
  refine ⟨h.two,by omega,lV.2 fun p hp=>okS_iff.2 (by have:=h.bd p hp;omega),?_⟩
  match l,h,hc with
  |p::r,_,hc=>exact BE r p none hc (fun u hu=>by cases hu)
  | [],h,_=>exact absurd h.two (by simp)
/-! ### Loops that look for the first error -/
def K2 {α β:Type}(g:Nat→α→Option β):Nat→List α→Option β
  |_,[]=>none
  |i,a::r=>match g i a with
   |some e=>some e
   |none=>K2 g (i+1) r
def KA {β:Type}:Option β→Sum Unit β
  |some e=> .inr e
  |none=> .inl ()
theorem Dv {α β:Type}(l:List α)(F:Int→Option (Stp Int (Sum Unit β)))(g:Nat→α→Option β)(hF: ∀(i:Nat) a,l[i]? =some a→F (i:Int)=some (match g i a with|some e=> .out (.inr e)|none=> .go ((i+1:Nat):Int)))(h0:F (l.length:Int)=some (.out (.inl ()))):
    loop F 0=some (KA (K2 g 0 l)):=by
  have key: ∀(r:List α) (i:Nat),l.drop i=r→i≤l.length→loop F (i:Int)=some (KA (K2 g i r)):=by
    intro r
    induction r with
    |nil=>
     intro i hi hil
     have:i=l.length:=by have:=List.drop_eq_nil_iff.1 hi;omega
     subst this
     exact G7 h0
    |cons a r ih=>
     intro i hi hil
     have hlt:i<l.length:=by
       rcases Nat.lt_or_ge i l.length with q|q
       ·exact q
       ·rw [List.drop_eq_nil_of_le q]at hi;cases hi
     have ha:l[i]? =some a:=by have:=congrArg (fun z=>z[0]?) hi;simpa using this
     have hr:l.drop (i+1)=r:=by have:=congrArg (fun z=>z.drop 1) hi;simpa using this
     have hs:=hF i a ha
     unfold K2
     cases hg:g i a with
     |some e=>rw [hg]at hs;exact G7 hs
     |none=>rw [hg]at hs;rw [M5 hs];exact ih (i+1) hr (by omega)
  have:=key l 0 rfl (by omega)
  exact this
theorem firstE_none {α β:Type}{g:Nat→α→Option β}: ∀{l:List α} {i:Nat},K2 g i l=none↔∀(j:Nat) a,l[j]? =some a→g (i+j) a=none
  | [],i=>by simp [K2]
  |a::r,i=>by
   unfold K2
   cases h:g i a with
   |some e=>
    constructor
    ·intro h';cases h'
    ·intro h';have:=h' 0 a rfl;rw [Nat.add_zero,h]at this;cases this
   |none=>
    dsimp only
    rw [firstE_none (l:=r)]
    constructor
    ·intro h' j b hj
     cases j with
     |zero=>cases hj;exact h
     |succ j=>have:=h' j b hj;rwa [show i+1+j=i+ (j+1) by omega]at this
    ·intro h' j b hj
     have:=h' (j+1) b hj
     rwa [show i+ (j+1)=i+1+j by omega]at this
/-! ### Numbers -/
def Sq (n a b:Int):Bool:=decide (a≤n)&&decide (n≤b)
theorem Lm (n a b:Int):S6 n a b=some (Sq n a b):=rfl
theorem Mm (n a b:Int):Aw n a b=some (Sq n a b):=rfl
def Pd (kind:Int):Int×Int×Int:=if kind=1 then (2000,30,90)else if kind=2 then (1000,20,60)else if kind=3 then (300,100,300)else (0,0,0)
theorem DM (k:Int):Gz k=some (Pd k):=by
  unfold Gz Pd
  by_cases h:k<0∨k≥4
  ·rw [show ((decide (k<0))||(decide (k≥4)))=true by simpa using h,l8,bB (by omega),bB (by omega),bB (by omega)]
  ·rw [show ((decide (k<0))||(decide (k≥4)))=false by rw [bI];simpa using h,l9]
   obtain ⟨h1,h2⟩:=not_or.1 h
   rcases (show k=0∨k=1∨k=2∨k=3 by omega)with rfl|rfl|rfl|rfl<;>rfl
theorem BF (k:Int):He k=some (Pd k):=by
  unfold He Pd
  by_cases h1:k=1
  ·subst h1;rfl
  ·by_cases h2:k=2
   ·subst h2;rfl
   ·by_cases h3:k=3
    ·subst h3;rfl
    ·rw [bB h1,bB h2,bB h3]
     rw [show (k==1)=false by simpa using h1,show (k==2)=false by simpa using h2,show (k==3)=false by simpa using h3];rfl
theorem HP {n:Int}(h: -9223372036854775808≤n∧n≤9223372036854775807):C8 n=n:=Go.IntWalk.i64_in n h
theorem C4 {α:Type}{l:List α}{i:Nat}{a:α}(h:l[i]? =some a):E5 l (i:Int)=some a:=by
  unfold E5;rw [bA (by omega),bM];exact h
theorem H3 {α:Type}{l:List α}{i:Nat}{a:α}(h:l[i]? =some a):i<l.length:=(lH.1 h).1
theorem Yt {α:Type}(c:Bool)(a b:α):cond c (some a) (some b)=some (cond c a b):=by cases c<;>rfl
def Bt (high:Int):Int→List Int→Bool
  |_,[]=>true
  |low,n::r=>decide (low≤n)&&decide (n<high)&&Bt high (n+1) r
theorem Wo (l:List Int)(low high:Int)(hl:l.length≤1000000)(hh:high≤1000000000)(h0:0≤low):Z2 l low high=some (Bt high low l):=by
  have key: ∀(r:List Int) (i:Nat) (lo:Int),0≤lo→l.drop i=r→i≤l.length→loop (Aj l high) (lo,(i:Int))=some (if Bt high lo r then .inl ()else .inr false):=by
    intro r
    induction r with
    |nil=>
     intro i lo _ hi hil
     have:=S8 hi
     refine G7 ?_
     unfold Aj
     dsimp only
     rw [show decide ((i:Int)< (l.length:Int))=false from l6 (by omega)];rfl
    |cons n r ih=>
     intro i lo hlo hi hil
     have hlt:=Q7 hi
     have hs:Aj l high (lo,(i:Int))=some (if decide (lo≤n)&&decide (n<high)then .go (n+1,((i+1:Nat):Int))else .out (.inr false)):=by
       unfold Aj
       dsimp only
       rw [show decide ((i:Int)< (l.length:Int))=true from l5 (by omega),S5 hi,l8,lA,HP (n:=(i:Int)+1) (by omega)]
       by_cases q:lo≤n∧n<high
       ·rw [show ((decide (n<lo))||(decide (n≥high)))=false by rw [bI];simp;omega,l9,HP (n:=n+1) (by omega),bA (by simpa using q)];rfl
       ·rw [show ((decide (n<lo))||(decide (n≥high)))=true by simp;omega,l8,bB (by simpa using q)]
     unfold Bt
     cases q:(decide (lo≤n)&&decide (n<high))
     ·rw [q]at hs;rw [G7 hs];rfl
     ·rw [q]at hs
      simp only [bD,l7]at q
      rw [M5 hs,ih (i+1) (n+1) (by omega) (M1 hi) (by omega)];rfl
  unfold Z2
  have:=key l 0 low h0 rfl (by omega)
  rw [show ((0:Nat):Int)=0 from rfl]at this
  rw [this]
  cases Bt high low l<;>rfl
theorem Tv (l:List Int)(low high:Int)(hl:l.length≤1000000):Dc l low high=some (Bt high low l):=by
  have key: ∀(r:List Int) (i:Nat) (lo:Int),low≤lo→(i=0→lo=low)→(0<i→l[i - 1]? =some (lo - 1))→l.drop i=r→i≤l.length→loop (Y5 l low high) (i:Int)=some (if Bt high lo r then .inl ()else .inr false):=by
    intro r
    induction r with
    |nil=>
     intro i lo _ _ _ hi hil
     have:=S8 hi
     refine G7 ?_
     unfold Y5
     rw [show decide ((i:Int)< (l.length:Int))=false from l6 (by omega)];rfl
    |cons n r ih=>
     intro i lo hlo h0 h1 hi hil
     have hlt:=Q7 hi
     have hn:l[i]? =some n:=by have:=congrArg (fun z=>z[0]?) hi;simpa using this
     have hs:Y5 l low high (i:Int)=some (if decide (lo≤n)&&decide (n<high)then .go ((i+1:Nat):Int)else .out (.inr false)):=by
       unfold Y5
       rw [show decide ((i:Int)< (l.length:Int))=true from l5 (by omega),S5 hi,l8,lA,Yt,lA,Yt,lA,HP (n:=(i:Int)+1) (by omega)]
       by_cases q1:n<low
       ·rw [l5 q1,bB (by simp;omega)];rfl
       ·rw [l6 q1]
        simp only [bG,l8,bH]
        by_cases q2:n≥high
        ·rw [l5 q2,bB (by simp;omega)];rfl
        ·rw [l6 q2]
         simp only [bG,bC,bH]
         by_cases q3:(i:Int)>0
         ·have e:E5 l (C8 ((i:Int) - 1))=some (lo - 1):=by
            rw [HP (n:=(i:Int) - 1) (by omega),show (i:Int) - 1=((i - 1:Nat):Int) by omega]
            exact C4 (h1 (by omega))
          rw [l5 q3,l8,l8,e,lA,bC]
          by_cases q4:n≤lo - 1
          ·rw [l5 q4,bB (by simp;omega)];rfl
          ·rw [l6 q4,bA (by simp;omega)];rfl
         ·have:lo=low:=h0 (by omega)
          rw [l6 q3,l9,lA,Bool.false_and,bA (by simp;omega)];rfl
     unfold Bt
     cases q:(decide (lo≤n)&&decide (n<high))
     ·rw [q]at hs;rw [G7 hs];rfl
     ·rw [q]at hs
      simp only [bD,l7]at q
      rw [M5 hs,ih (i+1) (n+1) (by omega) (fun z=>by omega) (fun _=>by rw [Nat.add_sub_cancel,hn];congr 1;omega) (M1 hi) (by omega)];rfl
  unfold Dc
  have:=key l 0 low (Int.le_refl _) (fun _=>rfl) (fun z=>by omega) rfl (by omega)
  rw [show ((0:Nat):Int)=0 from rfl]at this
  rw [this]
  cases Bt high low l<;>rfl
noncomputable def QW (c:Curve):Int:=Tu 0 (Ib c)
theorem UM {m:Map}{i:Nat}{l:Lane}(h:m.Lanes[i]? =some l)(hl:l.Curve_.Pts.length≤1000000):V4 m (i:Int)=some (QW l.Curve_):=by
  unfold V4
  rw [C4 h,lA,Yl _ hl];rfl
/-- The lists of a map are of bearable lengths. -/
structure Bear (m:Map):Prop where
  lanes:m.Lanes.length≤1000000
  pts: ∀l∈m.Lanes,l.Curve_.Pts.length≤1000000∧l.Next.length≤1000000
noncomputable def laneE (n:Nat)(i:Nat)(l:Lane):Option Int:=
  if (Pd l.Kind).1=0 then some 4
  else if U3 l.Curve_.Pts≠0 then some (U3 l.Curve_.Pts)
  else if (Sq l.Half 200 4000&&Sq l.Limit 1 (Pd l.Kind).1)=false then some 2
  else if 3<l.Next.length then some 8
  else if Bt n (i+1) l.Next=false then some 11 else none
theorem QX {m:Map}(B:Bear m):Q2 ⟨m⟩=some ((K2 (laneE m.Lanes.length) 0 m.Lanes).getD 0):=by
  have h:=Dv m.Lanes (O4 ⟨m⟩) (laneE m.Lanes.length) (fun i l hl=>by
    have hi:=H3 hl
    have hb:=B.lanes
    obtain ⟨p1,p2⟩:=B.pts l (lF hl)
    unfold O4 laneE
    dsimp only
    rw [show decide ((i:Int)< (m.Lanes.length:Int))=true from l5 (by omega),C4 hl,l8,lA,DM,lA,Jm _ p1,lA,Lm,Lm,lA,Yt,lA,HP (n:=(i:Int)+1) (by omega),Wo _ _ _ p2 (by omega) (by omega),lA]
    by_cases h1:(Pd l.Kind).1=0
    ·rw [bA h1,show ((Pd l.Kind).1==0)=true by simpa using h1];rfl
    ·rw [bB h1,show ((Pd l.Kind).1==0)=false by simpa using h1,l9]
     by_cases h2:U3 l.Curve_.Pts≠0
     ·rw [bA h2,show (U3 l.Curve_.Pts !=0)=true by simpa using h2];rfl
     ·rw [bB h2,show (U3 l.Curve_.Pts !=0)=false by simpa using h2,l9]
      cases Sq l.Half 200 4000
      ·rfl
      ·cases Sq l.Limit 1 (Pd l.Kind).1
       ·rfl
       ·simp only [bF,bG,l8,l9,bH,Bool.and_self]
        rw [bB (by decide)]
        by_cases h3:3<l.Next.length
        ·rw [bA h3,show decide ((l.Next.length:Int)>3)=true from l5 (by omega)];rfl
        ·rw [bB h3,show decide ((l.Next.length:Int)>3)=false from l6 (by omega),l9]
         cases Bt (m.Lanes.length:Int) ((i:Int)+1) l.Next<;>rfl) (by
    unfold O4
    dsimp only
    rw [show decide ((m.Lanes.length:Int)< (m.Lanes.length:Int))=false from l6 (by omega)];rfl)
  unfold Q2
  rw [h]
  cases K2 (laneE m.Lanes.length) 0 m.Lanes<;>rfl
theorem QY (k:Int):((decide (k<1))||(decide (k>3)))=decide ((Pd k).1=0):=by
  unfold Pd
  by_cases h1:k=1
  ·subst h1;rfl
  ·by_cases h2:k=2
   ·subst h2;rfl
   ·by_cases h3:k=3
    ·subst h3;rfl
    ·rw [bB h1,bB h2,bB h3]
     simp only [decide_true,bE,l7]
     omega
theorem QZ {m:Map}(B:Bear m){i:Nat}{l:Lane}(hl:m.Lanes[i]? =some l):Es m (i:Int)=some ((laneE m.Lanes.length i l).getD 0):=by
  have hi:=H3 hl
  have hb:=B.lanes
  obtain ⟨p1,p2⟩:=B.pts l (lF hl)
  unfold Es laneE
  rw [C4 hl,lA,QY,Rj _ p1,lA,BF,lA,Mm,Mm,lA,Yt,lA,HP (n:=(i:Int)+1) (by omega),Tv _ _ _ p2,lA]
  by_cases h1:(Pd l.Kind).1=0
  ·rw [bA h1,l5 h1];rfl
  ·rw [bB h1,l6 h1,l9]
   by_cases h2:U3 l.Curve_.Pts≠0
   ·rw [bA h2,show (U3 l.Curve_.Pts !=0)=true by simpa using h2];rfl
   ·rw [bB h2,show (U3 l.Curve_.Pts !=0)=false by simpa using h2,l9]
    cases Sq l.Half 200 4000
    ·rfl
    ·cases Sq l.Limit 1 (Pd l.Kind).1
     ·rfl
     ·simp only [bF,bG,l8,l9,bH,Bool.and_self]
      rw [bB (by decide)]
      by_cases h3:3<l.Next.length
      ·rw [bA h3,show decide ((l.Next.length:Int)>3)=true from l5 (by omega)];rfl
      ·rw [bB h3,show decide ((l.Next.length:Int)>3)=false from l6 (by omega),l9]
       cases Bt (m.Lanes.length:Int) ((i:Int)+1) l.Next<;>rfl
theorem BG {n i:Nat}{l:Lane}{e:Int}(h:laneE n i l=some e):e≠0:=by
  unfold laneE at h
  split at h
  ·cases h;decide
  ·split at h
   ·rename_i h2;cases h;exact h2
   ·split at h
    ·cases h;decide
    ·split at h
     ·cases h;decide
     ·split at h
      ·cases h;decide
      ·cases h
theorem HQ {m:Map}(B:Bear m):loop (Bs m) 0=some (KA (K2 (laneE m.Lanes.length) 0 m.Lanes)):=
  Dv m.Lanes (Bs m) (laneE m.Lanes.length) (fun i l hl=>by
   have hi:=H3 hl
   have hb:=B.lanes
   unfold Bs
   rw [show decide ((i:Int)< (m.Lanes.length:Int))=true from l5 (by omega),QZ B hl,l8,lA,HP (n:=(i:Int)+1) (by omega)]
   cases h:laneE m.Lanes.length i l with
   |none=>rfl
   |some e=>
    rw [Option.getD_some,show (e !=0)=true by simpa using BG h];rfl) (by
   unfold Bs
   rw [show decide ((m.Lanes.length:Int)< (m.Lanes.length:Int))=false from l6 (by omega)];rfl)
theorem Ln {high:Int}: ∀{l:List Int} {low:Int},Bt high low l=true→∀k∈l,low≤k∧k<high
  | [],_,_,k,hk=>by cases hk
  |n::r,low,h,k,hk=>by
   unfold Bt at h
   simp only [bD,l7]at h
   rcases lQ.1 hk with rfl|hk
   ·exact h.1
   ·have:=Ln h.2 k hk
    omega
/-- What a lane is that has no error of its own. -/
structure LaneOK (n i:Nat)(l:Lane):Prop where
  kind:(Pd l.Kind).1≠0
  curve:U3 l.Curve_.Pts=0
  half:Sq l.Half 200 4000=true
  limit:Sq l.Limit 1 (Pd l.Kind).1=true
  few:l.Next.length≤3
  next:Bt n (i+1) l.Next=true
theorem KB {n i:Nat}{l:Lane}(h:laneE n i l=none):LaneOK n i l:=by
  unfold laneE at h
  split at h
  ·cases h
  ·rename_i h1
   split at h
   ·cases h
   ·rename_i h2
    split at h
    ·cases h
    ·rename_i h3
     split at h
     ·cases h
     ·rename_i h4
      split at h
      ·cases h
      ·rename_i h5
       simp only [Bool.not_eq_false,bD]at h3
       exact ⟨h1,Decidable.not_not.1 h2,h3.1,h3.2,by omega,by simpa using h5⟩
theorem Rk {m:Map}(h:K2 (laneE m.Lanes.length) 0 m.Lanes=none){i:Nat}{l:Lane}(hl:m.Lanes[i]? =some l):LaneOK m.Lanes.length i l:=by
  have:=firstE_none.1 h i l hl
  rw [bQ]at this
  exact KB this
theorem Wq {l:List Spot}(h:U3 l=0):2≤l.length:=by
  unfold U3 at h
  split at h
  ·cases h
  ·omega
def Sr (l:List Spot):Spot:=l.headD ⟨0,0⟩
def Pu (l:List Spot):Spot:=l.getLastD ⟨0,0⟩
theorem DN {l:List Spot}(h:2≤l.length):E5 l 0=some (Sr l):=by
  cases l with
  |nil=>simp at h
  |cons a r=>rfl
theorem DO {l:List Spot}(h:2≤l.length)(hl:l.length≤1000000):E5 l (C8 ((l.length:Int) - 1))=some (Pu l):=by
  rw [HP (by omega),show (l.length:Int) - 1=((l.length - 1:Nat):Int) by omega]
  refine C4 ?_
  unfold Pu
  rw [List.getLastD_eq_getLast?,List.getLast?_eq_getElem?]
  rw [lG (by omega)];rfl
def HR (a b:Spot):Bool:=a.X==b.X&& (a.Y==b.Y&&true)
def Tw (m:Map)(l:Lane)(_:Nat)(k:Int):Option Int:=
  match m.Lanes[k.toNat]? with
  |some n=>if n.Kind≠l.Kind then some 4 else if HR (Sr n.Curve_.Pts) (Pu l.Curve_.Pts)=false then some 3 else none
  |none=>none
def Jq (m:Map)(_:Nat)(l:Lane):Option Int:=K2 (Tw m l) 0 l.Next
theorem BH {m:Map}(B:Bear m)(H:K2 (laneE m.Lanes.length) 0 m.Lanes=none){i:Nat}{l:Lane}(hl:m.Lanes[i]? =some l){j:Nat}{k:Int}(hk:l.Next[j]? =some k):
    ∃n,E5 m.Lanes k=some n∧m.Lanes[k.toNat]? =some n∧2≤n.Curve_.Pts.length∧n.Curve_.Pts.length≤1000000:=by
  have L:=Rk H hl
  have hb:=Ln L.next k (lF hk)
  have hlt:k.toNat<m.Lanes.length:=by omega
  refine ⟨m.Lanes[k.toNat],?_,lG hlt,Wq (Rk H (lG hlt)).curve,(B.pts _ (List.getElem_mem hlt)).1⟩
  unfold E5
  rw [bA (by omega),lG hlt]
theorem NE {m:Map}{l:Lane}{j:Nat}{k e:Int}(h:Tw m l j k=some e):e≠0:=by
  unfold Tw at h
  split at h
  ·split at h
   ·cases h;decide
   ·split at h
    ·cases h;decide
    ·cases h
  ·cases h
theorem DP {m:Map}(B:Bear m)(H:K2 (laneE m.Lanes.length) 0 m.Lanes=none){i:Nat}{l:Lane}(hl:m.Lanes[i]? =some l):
    loop (T4 ⟨m⟩ l (Pu l.Curve_.Pts)) 0=some (KA (Jq m i l))∧loop (Y6 m l) 0=some (KA (Jq m i l)):=by
  have L:=Rk H hl
  obtain ⟨p1,p2⟩:=B.pts l (lF hl)
  constructor
  ·refine Dv l.Next _ (Tw m l) (fun j k hk=> ?_) ?_
   ·have hj:=H3 hk
    obtain ⟨n,g1,g2,g3,g4⟩:=BH B H hl hk
    unfold T4 Tw
    dsimp only
    rw [show decide ((j:Int)< (l.Next.length:Int))=true from l5 (by omega),C4 hk,l8,lA,g1,lA,lA,DN g3,lA,HP (n:=(j:Int)+1) (by omega),g2]
    dsimp only
    rw [show ((Sr n.Curve_.Pts).X==(Pu l.Curve_.Pts).X&& ((Sr n.Curve_.Pts).Y==(Pu l.Curve_.Pts).Y&&true))=HR (Sr n.Curve_.Pts) (Pu l.Curve_.Pts) from rfl]
    by_cases h1:n.Kind≠l.Kind
    ·rw [bA h1,show (n.Kind !=l.Kind)=true by simpa using h1];rfl
    ·rw [bB h1,show (n.Kind !=l.Kind)=false by simpa using h1]
     cases HR (Sr n.Curve_.Pts) (Pu l.Curve_.Pts)<;>rfl
   ·unfold T4
    rw [show decide ((l.Next.length:Int)< (l.Next.length:Int))=false from l6 (by omega)];rfl
  ·refine Dv l.Next _ (Tw m l) (fun j k hk=> ?_) ?_
   ·have hj:=H3 hk
    obtain ⟨n,g1,g2,g3,g4⟩:=BH B H hl hk
    unfold Y6 Tw
    rw [show decide ((j:Int)< (l.Next.length:Int))=true from l5 (by omega),C4 hk,l8,lA,g1,lA,DN g3,lA,DO (Wq L.curve) p1,lA,HP (n:=(j:Int)+1) (by omega),g2]
    dsimp only
    rw [show ((Sr n.Curve_.Pts).X==(Pu l.Curve_.Pts).X&& ((Sr n.Curve_.Pts).Y==(Pu l.Curve_.Pts).Y&&true))=HR (Sr n.Curve_.Pts) (Pu l.Curve_.Pts) from rfl]
    by_cases h1:n.Kind≠l.Kind
    ·rw [bA h1,show (n.Kind !=l.Kind)=true by simpa using h1];rfl
    ·rw [bB h1,show (n.Kind !=l.Kind)=false by simpa using h1]
     cases HR (Sr n.Curve_.Pts) (Pu l.Curve_.Pts)<;>rfl
   ·unfold Y6
    rw [show decide ((l.Next.length:Int)< (l.Next.length:Int))=false from l6 (by omega)];rfl
theorem DQ {m:Map}(B:Bear m)(H:K2 (laneE m.Lanes.length) 0 m.Lanes=none):
    P7 ⟨m⟩=some ((K2 (Jq m) 0 m.Lanes).getD 0)∧Et m=some ((K2 (Jq m) 0 m.Lanes).getD 0):=by
  have hb:=B.lanes
  constructor
  ·have h:=Dv m.Lanes (N6 ⟨m⟩) (Jq m) (fun i l hl=>by
     have hi:=H3 hl
     have L:=Rk H hl
     obtain ⟨p1,p2⟩:=B.pts l (lF hl)
     unfold N6
     dsimp only
     rw [show decide ((i:Int)< (m.Lanes.length:Int))=true from l5 (by omega),C4 hl,l8,lA,DO (Wq L.curve) p1,lA,(DP B H hl).1,HP (n:=(i:Int)+1) (by omega)]
     cases Jq m i l<;>rfl) (by
     unfold N6
     dsimp only
     rw [show decide ((m.Lanes.length:Int)< (m.Lanes.length:Int))=false from l6 (by omega)];rfl)
   unfold P7
   rw [h]
   cases K2 (Jq m) 0 m.Lanes<;>rfl
  ·have h:=Dv m.Lanes (Y7 m) (Jq m) (fun i l hl=>by
     have hi:=H3 hl
     unfold Y7
     rw [show decide ((i:Int)< (m.Lanes.length:Int))=true from l5 (by omega),C4 hl,l8,lA,(DP B H hl).2,HP (n:=(i:Int)+1) (by omega)]
     cases Jq m i l<;>rfl) (by
     unfold Y7
     rw [show decide ((m.Lanes.length:Int)< (m.Lanes.length:Int))=false from l6 (by omega)];rfl)
   unfold Et
   rw [h]
   cases K2 (Jq m) 0 m.Lanes<;>rfl
/-- The place of the first element with a property. -/
theorem KC {α:Type}{f:Int→Option (Stp Int (Sum Unit Int))}(l:List α)(P:α→Bool)(hl:l.length≤1000000000)(hf: ∀(i:Nat) a,l[i]? =some a→f (i:Int)=some (if P a then .out (.inr (i:Int))else .go (C8 ((i:Int)+1))))(he:f (l.length:Int)=some (.out (.inl ()))):
    loop f 0=some (match l.findIdx? P with|some i=> .inr (i:Int)|none=> .inl ()):=by
  have key: ∀(r:List α) (i:Nat),l.drop i=r→i≤l.length→loop f (i:Int)=some (match r.findIdx? P with|some j=> .inr ((i+j:Nat):Int)|none=> .inl ()):=by
    intro r
    induction r with
    |nil=>
     intro i hi hil
     have:=S8 hi
     obtain rfl:i=l.length:=by omega
     rw [G7 he];rfl
    |cons a r ih=>
     intro i hi _
     have hlt:=Q7 hi
     have h0:l[i]? =some a:=by have:=congrArg (fun z=>z[0]?) hi;simpa using this
     have hs:=hf i a h0
     rw [List.findIdx?_cons]
     by_cases hp:P a=true
     ·rw [bA hp]at hs
      rw [G7 hs,bA hp];simp
     ·rw [bB hp]at hs
      rw [E0 (by omega)]at hs
      rw [M5 hs,show ((i:Int)+1)=((i+1:Nat):Int) by omega,ih (i+1) (M1 hi) (by omega),bB hp]
      cases r.findIdx? P with
      |none=>rfl
      |some j=>simp only [lE];congr 3;omega
  have:=key l 0 rfl (by omega)
  rw [show ((0:Nat):Int)=0 from rfl]at this
  rw [this]
  cases l.findIdx? P<;>simp
/-- -1, or the place. -/
def RA {α:Type}(P:α→Bool)(l:List α):Int:=match l.findIdx? P with|some i=>(i:Int)|none=> -1
theorem Gr {α:Type}(P:α→Bool)(l:List α):decide (RA P l≥0)=l.any P:=by
  unfold RA
  cases h:l.findIdx? P with
  |none=>
   have:=List.findIdx?_eq_none_iff.1 h
   rw [show l.any P=false by rw [List.any_eq_false];intro x hx;simpa using this x hx]
   decide
  |some i=>
   have:=List.findIdx?_isSome (xs:=l) (p:=P)
   rw [h]at this
   rw [← this]
   simp
/-- What both twins compute of a list. -/
theorem Ff {α:Type}{f:Int→Option (Stp Int (Sum Unit Int))}(l:List α)(P:α→Bool)(hl:l.length≤1000000000)(hf: ∀(i:Nat) a,l[i]? =some a→f (i:Int)=some (if P a then .out (.inr (i:Int))else .go (C8 ((i:Int)+1))))(he:f (l.length:Int)=some (.out (.inl ()))):
    thenS (loop f 0) (fun _=>some (-1)) (fun r=>some r)=some (RA P l):=by
  rw [KC l P hl hf he]
  unfold RA
  cases l.findIdx? P<;>rfl
theorem NF (l:List Phase)(hl:l.length≤1000000):D6 l=some (l.any fun p=> !Sq p.Ticks 1 10000):=by
  unfold D6 F3
  rw [Ff l (fun p=> !Sq p.Ticks 1 10000) (by omega) (fun i a h=>by
   have:=H3 h
   unfold G8 Bu
   rw [show decide ((i:Int)< (l.length:Int))=true from l5 (by omega),C4 h,l8,lA,Lm,lA,lA]
   cases Sq a.Ticks 1 10000<;>rfl) (by
   unfold G8
   simp)]
  rw [lA,Gr]
theorem KD (m:Map)(l:List Phase)(hl:l.length≤1000000)(hm:m.Lanes.length≤1000000)(hg: ∀p∈l,p.Green.length≤1000000):D4 l ⟨m⟩=some (l.any fun p=> !Bt m.Lanes.length 0 p.Green):=by
  unfold D4 F1
  rw [Ff l (fun p=> !Bt m.Lanes.length 0 p.Green) (by omega) (fun i a h=>by
   have:=H3 h
   unfold D3 P4
   dsimp only
   rw [show decide ((i:Int)< (l.length:Int))=true from l5 (by omega),C4 h,l8,lA,Wo _ _ _ (hg a (lF h)) (by omega) (by omega),lA,lA]
   cases Bt (m.Lanes.length:Int) 0 a.Green<;>rfl) (by
   unfold D3
   simp)]
  rw [lA,Gr]
structure BearS (m:Map):Prop where
  many:m.Signals.length≤1000000
  phases: ∀s∈m.Signals,s.Phases.length≤1000000∧∀p∈s.Phases,p.Green.length≤1000000
def El (m:Map)(_:Nat)(s:Signal):Option Int:=
  if s.Phases.length=0 then some 6
  else if 6<s.Phases.length then some 8
  else if Sq s.Offset 0 1099511627776=false then some 2
  else if (s.Phases.any fun p=> !Sq p.Ticks 1 10000)=true then some 2
  else if (s.Phases.any fun p=> !Bt m.Lanes.length 0 p.Green)=true then some 11 else none
theorem KE {m:Map}(B:Bear m)(S:BearS m):P2 ⟨m⟩=some ((K2 (El m) 0 m.Signals).getD 0):=by
  have h:=Dv m.Signals (N0 ⟨m⟩) (El m) (fun i s hs=>by
    have hi:=H3 hs
    have hb:=S.many
    obtain ⟨p1,p2⟩:=S.phases s (lF hs)
    unfold N0 El
    dsimp only
    rw [show decide ((i:Int)< (m.Signals.length:Int))=true from l5 (by omega),C4 hs,l8,lA,Lm,lA,NF _ p1,lA,KD m _ p1 B.lanes p2,lA,HP (n:=(i:Int)+1) (by omega)]
    by_cases h1:s.Phases.length=0
    ·rw [bA h1,h1];rfl
    ·rw [bB h1,show ((s.Phases.length:Int)==0)=false by simp only [beq_eq_false_iff_ne];omega,l9]
     by_cases h2:6<s.Phases.length
     ·rw [bA h2,show decide ((s.Phases.length:Int)>6)=true from l5 (by omega)];rfl
     ·rw [bB h2,show decide ((s.Phases.length:Int)>6)=false from l6 (by omega),l9]
      cases Sq s.Offset 0 1099511627776
      ·rfl
      ·cases (s.Phases.any fun p=> !Sq p.Ticks 1 10000)
       ·cases (s.Phases.any fun p=> !Bt m.Lanes.length 0 p.Green)<;>rfl
       ·rfl) (by
    unfold N0
    dsimp only
    rw [show decide ((m.Signals.length:Int)< (m.Signals.length:Int))=false from l6 (by omega)];rfl)
  unfold P2
  rw [h]
  cases K2 (El m) 0 m.Signals<;>rfl
theorem HS (s:Signal)(hl:s.Phases.length≤1000000): ∀(r:List Phase) (i:Nat) (b:Bool),s.Phases.drop i=r→i≤s.Phases.length→loop (S3 s) (b,(i:Int))=some (b&& !(r.any fun p=> !Sq p.Ticks 1 10000)):=by
  intro r
  induction r with
  |nil=>
   intro i b hi hil
   have:=S8 hi
   refine G7 ?_
   unfold S3
   dsimp only
   rw [show decide ((i:Int)< (s.Phases.length:Int))=false from l6 (by omega)]
   simp
  |cons p r ih=>
   intro i b hi hil
   have hlt:=Q7 hi
   have hs:S3 s (b,(i:Int))=some (.go (b&&Sq p.Ticks 1 10000,((i+1:Nat):Int))):=by
     unfold S3
     dsimp only
     rw [show decide ((i:Int)< (s.Phases.length:Int))=true from l5 (by omega),S5 hi,HP (n:=(i:Int)+1) (by omega)]
     cases b<;>rfl
   rw [M5 hs,ih (i+1) _ (M1 hi) (by omega),List.any_cons]
   cases b<;>cases Sq p.Ticks 1 10000<;>simp
theorem FF (m:Map)(s:Signal)(hl:s.Phases.length≤1000000)(hg: ∀p∈s.Phases,p.Green.length≤1000000):loop (R9 m s) 0=some (if (s.Phases.any fun p=> !Bt m.Lanes.length 0 p.Green)=true then .inr 11 else .inl ()):=by
  have h:=Dv s.Phases (R9 m s) (fun _ p=>if Bt m.Lanes.length 0 p.Green then none else some 11) (fun i p hp=>by
    have:=H3 hp
    unfold R9
    rw [show decide ((i:Int)< (s.Phases.length:Int))=true from l5 (by omega),C4 hp,l8,lA,Tv _ _ _ (hg p (lF hp)),lA,HP (n:=(i:Int)+1) (by omega)]
    cases Bt (m.Lanes.length:Int) 0 p.Green<;>rfl) (by
    unfold R9
    rw [show decide ((s.Phases.length:Int)< (s.Phases.length:Int))=false from l6 (by omega)];rfl)
  rw [h]
  have key: ∀(l:List Phase) (i:Nat),KA (K2 (fun (_:Nat) (p:Phase)=>if Bt (m.Lanes.length:Int) 0 p.Green=true then none else some (11:Int)) i l)=if (l.any fun p=> !Bt m.Lanes.length 0 p.Green)=true then .inr 11 else .inl ():=by
    intro l
    induction l with
    |nil=>intro i;rfl
    |cons p r ih=>
     intro i
     unfold K2
     rw [List.any_cons]
     cases hq:Bt (m.Lanes.length:Int) 0 p.Green
     ·rfl
     ·exact ih (i+1)
  rw [key]
end Go.Abs.Roadsz
/-! Loops over lists, as functions on lists. -/
namespace Go.Abs
open Go
section
variable {α β σ S τ:Type}
/-- What a loop over a list makes, with a state, and with a way out. -/
def BI (step:Nat→σ→α→Sum σ τ)(fin:σ→τ):Nat→σ→List α→τ
  |_,s,[]=>fin s
  |i,s,a::r=>match step i s a with
   | .inl s'=>BI step fin (i+1) s' r
   | .inr t=>t
theorem Kl {l:List α}{i:Nat}{a:α}{r:List α}(h:l.drop i=a::r):l[i]? =some a:=by
  have:=congrArg (fun z=>z[0]?) h
  simpa using this
theorem VM {F:S→Option (Stp S τ)}(pk:Nat→σ→S)(l:List α)(inv:Nat→σ→Prop)(step:Nat→σ→α→Sum σ τ)(fin:σ→τ){s0:σ}{S0:S}(hS:pk 0 s0=S0)(hi:inv 0 s0)
    (hF: ∀i a s,l[i]? =some a→inv i s→F (pk i s)=some (match step i s a with| .inl s'=> .go (pk (i+1) s')| .inr t=> .out t))
    (hI: ∀i a s s',l[i]? =some a→inv i s→step i s a= .inl s'→inv (i+1) s')
    (h0: ∀s,inv l.length s→F (pk l.length s)=some (.out (fin s))):loop F S0=some (BI step fin 0 s0 l):=by
  have key: ∀(r:List α) (i:Nat) (s:σ),l.drop i=r→i≤l.length→inv i s→loop F (pk i s)=some (BI step fin i s r):=by
    intro r
    induction r with
    |nil=>
     intro i s hi hil hv
     have:=S8 hi
     obtain rfl:i=l.length:=by omega
     exact G7 (h0 s hv)
    |cons a r ih=>
     intro i s hi hil hv
     have hlt:=Q7 hi
     have ha:=Kl hi
     have hs:=hF i a s ha hv
     unfold BI
     cases h:step i s a with
     |inl s'=>rw [h]at hs;rw [M5 hs];exact ih (i+1) s' (M1 hi) (by omega) (hI i a s s' ha hv h)
     |inr t=>rw [h]at hs;exact G7 hs
  rw [← hS]
  exact key l 0 s0 rfl (by omega) hi
/-- The same without a way out. -/
def Oe (step:Nat→σ→α→σ):Nat→σ→List α→σ
  |_,s,[]=>s
  |i,s,a::r=>Oe step (i+1) (step i s a) r
theorem Xp (step:Nat→σ→α→σ)(fin:σ→τ): ∀(l:List α) (i:Nat) (s:σ),BI (fun i s a=> .inl (step i s a)) fin i s l=fin (Oe step i s l)
  | [],_,_=>rfl
  |_::r,i,_=>Xp step fin r (i+1) _
theorem HT {F:S→Option (Stp S τ)}(pk:Nat→σ→S)(l:List α)(inv:Nat→σ→Prop)(step:Nat→σ→α→σ)(fin:σ→τ){s0:σ}{S0:S}(hS:pk 0 s0=S0)(hi:inv 0 s0)
    (hF: ∀i a s,l[i]? =some a→inv i s→F (pk i s)=some (.go (pk (i+1) (step i s a))))
    (hI: ∀i a s,l[i]? =some a→inv i s→inv (i+1) (step i s a))
    (h0: ∀s,inv l.length s→F (pk l.length s)=some (.out (fin s))):loop F S0=some (fin (Oe step 0 s0 l)):=by
  rw [← Xp step fin]
  exact VM pk l inv _ fin hS hi hF (fun i a s s' h1 h2 h3=>by cases h3;exact hI i a s h1 h2) h0
/-- The elements that a loop gathers. -/
def Aq (g:Nat→α→Option β):Nat→List α→List β
  |_,[]=> []
  |i,a::r=>match g i a with
   |some b=>b::Aq g (i+1) r
   |none=>Aq g (i+1) r
theorem Bl (g:Nat→α→Option β): ∀(l:List α) (i:Nat),(Aq g i l).length≤l.length
  | [],_=>bN _
  |a::r,i=>by
   have:=Bl g r (i+1)
   unfold Aq
   cases g i a<;>simp only [lJ]<;>omega
theorem Pe (g:Nat→α→Option β): ∀(l:List α) (i:Nat) (s:List β),Oe (fun i s a=>match g i a with|some b=>s++ [b]|none=>s) i s l=s++Aq g i l
  | [],_,s=>by simp [Oe,Aq]
  |a::r,i,s=>by
   unfold Oe Aq
   rw [Pe g r (i+1)]
   cases g i a<;>simp
theorem VN {F:S→Option (Stp S τ)}(pk:Nat→List β→S)(l:List α)(g:Nat→α→Option β)(fin:List β→τ){S0:S}(hS:pk 0 []=S0)
    (hF: ∀i a (s:List β),l[i]? =some a→s.length≤i→F (pk i s)=some (.go (pk (i+1) (match g i a with|some b=>s++ [b]|none=>s))))
    (h0: ∀s,F (pk l.length s)=some (.out (fin s))):loop F S0=some (fin (Aq g 0 l)):=by
  have:=HT pk l (fun i s=>s.length≤i) (fun i s a=>match g i a with|some b=>s++ [b]|none=>s) fin hS (by simp) hF (fun i a s _ hs=>by
    cases g i a<;>simp<;>omega) (fun s _=>h0 s)
  rw [this,Pe,lM]
theorem Wr {F:List β×Int→Option (Stp (List β×Int) τ)}(l:List α)(g:Nat→α→Option β)(fin:List β→τ)
    (hF: ∀(i:Nat) a (s:List β),l[i]? =some a→s.length≤i→F (s,(i:Int))=some (.go ((match g i a with|some b=>s++ [b]|none=>s),((i+1:Nat):Int))))
    (h0: ∀s,F (s,(l.length:Int))=some (.out (fin s))):loop F ([],0)=some (fin (Aq g 0 l)):=VN (fun i s=>(s,(i:Int))) l g fin rfl hF h0
theorem XE {F:σ×Int→Option (Stp (σ×Int) τ)}(l:List α)(step:Nat→σ→α→σ)(fin:σ→τ)(s0:σ)
    (hF: ∀(i:Nat) a s,l[i]? =some a→F (s,(i:Int))=some (.go (step i s a,((i+1:Nat):Int))))
    (h0: ∀s,F (s,(l.length:Int))=some (.out (fin s))):loop F (s0,0)=some (fin (Oe step 0 s0 l)):=
  HT (fun i s=>(s,(i:Int))) l (fun _ _=>True) step fin rfl trivial (fun i a s h _=>hF i a s h) (fun _ _ _ _ _=>trivial) (fun s _=>h0 s)
/-- Is there one? -/
theorem Mn {F:Int→Option (Stp Int (Sum Unit β))}(l:List α)(p:α→Bool)(v:β)(hF: ∀(i:Nat) a,l[i]? =some a→F (i:Int)=some (if p a then .out (.inr v)else .go ((i+1:Nat):Int)))(h0:F (l.length:Int)=some (.out (.inl ()))):
    loop F 0=some (if l.any p then .inr v else .inl ()):=by
  have key: ∀(l:List α) (i:Nat),BI (fun _ _ a=>if p a then Sum.inr (Sum.inr v)else Sum.inl ()) (fun _=>(Sum.inl ():Sum Unit β)) i () l=if l.any p then .inr v else .inl ():=by
    intro l
    induction l with
    |nil=>intro i;rfl
    |cons a r ih=>
     intro i
     unfold BI
     rw [List.any_cons]
     cases h:p a
     ·exact ih (i+1)
     ·rfl
  rw [← key l 0]
  exact VM (F:=F) (σ:=Unit) (fun i _=>(i:Int)) l (fun _ _=>True) _ _ (s0:=()) rfl trivial (fun i a _ h _=>by rw [hF i a h];cases p a<;>rfl) (fun _ _ _ _ _ _ _=>trivial) (fun _ _=>h0)
end
theorem J5 {i:Nat}{n:Nat}(h:i<n):decide ((i:Int)< (n:Int))=true:=l5 (by omega)
theorem H5 (n:Nat):decide ((n:Int)< (n:Int))=false:=l6 (by omega)
theorem H4 {i:Nat}{n:Nat}(h:i<n)(hn:n≤1000000000000):C8 ((i:Int)+1)=((i+1:Nat):Int):=by rw [E0 (by omega)];omega
end Go.Abs
namespace Go.Abs.Roadsz
open Go Go.Abs
structure BearZ (m:Map):Prop where
  many:m.Zones.length≤1000000
  parts: ∀z∈m.Zones,z.Parts.length≤1000000
noncomputable def X8 (m:Map)(k:Int):Int:=((m.Lanes[k.toNat]?).map fun l=>QW l.Curve_).getD 0
noncomputable def Nd (m:Map)(p:Part):Bool:=decide (p.From<0)||decide (p.From≥p.To)||decide (p.To>X8 m p.Lane_)||decide (p.Rank<0)||decide (p.Rank>100)
noncomputable def zoneE (m:Map)(_:Nat)(z:Zone):Option Int:=
  if z.Parts.length<2 then some 6
  else if 6<z.Parts.length then some 8
  else if z.Signal_<0∨(m.Signals.length:Int)<z.Signal_ then some 2
  else if Bt m.Lanes.length 0 (z.Parts.map (·.Lane_))=false then some 11
  else if z.Parts.any (Nd m)=true then some 2 else none
theorem Vm {m:Map}{k:Int}(h0:0≤k)(h1:k<m.Lanes.length): ∃l,m.Lanes[k.toNat]? =some l∧E5 m.Lanes k=some l:=by
  have hlt:k.toNat<m.Lanes.length:=by omega
  refine ⟨m.Lanes[k.toNat],lG hlt,?_⟩
  unfold E5
  rw [bA h0,lG hlt]
theorem FG {m:Map}(B:Bear m){k:Int}(h0:0≤k)(h1:k<m.Lanes.length):V4 m k=some (X8 m k):=by
  obtain ⟨l,e1,e2⟩:=Vm h0 h1
  have:=UM (m:=m) e1 (B.pts l (lF e1)).1
  rw [show ((k.toNat:Nat):Int)=k by omega]at this
  rw [this,X8,e1];rfl
theorem BJ {m:Map}(B:Bear m){k:Int}(h0:0≤k)(h1:k<m.Lanes.length): ∃l,E5 m.Lanes k=some l∧Cs l.Curve_=some (X8 m k):=by
  obtain ⟨l,e1,e2⟩:=Vm h0 h1
  refine ⟨l,e2,?_⟩
  rw [Ym _ (B.pts l (lF e1)).1,X8,e1];rfl
theorem HU {α β:Type}(f:α→β): ∀(l:List α) (i:Nat),Aq (fun _ a=>some (f a)) i l=l.map f
  | [],_=>rfl
  |a::r,i=>by rw [Aq,HU f r];rfl
theorem RB {z:Zone}{F:List Int×Int→Option (Stp (List Int×Int) (List Int))}(hl:z.Parts.length≤1000000)
    (hF: ∀x,F x=cond (decide (x.2< (z.Parts.length:Int))) ((E5 z.Parts x.2).bind fun v=>(Cj x.1 [v.Lane_]).bind fun w=>some (.go (w,C8 (x.2+1)))) (some (.out x.1))):
    loop F ([],0)=some (z.Parts.map (·.Lane_)):=by
  rw [← HU (fun p:Part=>p.Lane_) z.Parts 0]
  refine VN (fun i s=>(s,(i:Int))) z.Parts (fun _ p=>some p.Lane_) id rfl (fun i a s ha hs=> ?_) (fun s=> ?_)
  ·have hi:=H3 ha
   rw [hF,J5 hi,C4 ha,l8,lA,V0 (by simp;omega),lA,H4 hi (by omega)]
  ·rw [hF,H5];rfl
theorem RC {m:Map}(B:Bear m)(Z:BearZ m):Q3 ⟨m⟩=some ((K2 (zoneE m) 0 m.Zones).getD 0):=by
  have hb:=B.lanes
  have h:=Dv m.Zones (O6 ⟨m⟩) (zoneE m) (fun i z hz=>by
    have hi:=H3 hz
    have hm:=Z.many
    have p1:=Z.parts z (lF hz)
    unfold O6 zoneE
    dsimp only
    rw [J5 hi,C4 hz,l8,lA,RB p1 (F:=Cm z) (fun x=>rfl),lA,Wo _ _ _ (by simpa using p1) (by omega) (by omega),lA,H4 hi (by omega)]
    by_cases h1:z.Parts.length<2
    ·rw [bA h1,show decide ((z.Parts.length:Int)<2)=true from l5 (by omega)];rfl
    ·rw [bB h1,show decide ((z.Parts.length:Int)<2)=false from l6 (by omega),l9]
     by_cases h2:6<z.Parts.length
     ·rw [bA h2,show decide ((z.Parts.length:Int)>6)=true from l5 (by omega)];rfl
     ·rw [bB h2,show decide ((z.Parts.length:Int)>6)=false from l6 (by omega),l9]
      by_cases h3:z.Signal_<0∨(m.Signals.length:Int)<z.Signal_
      ·rw [bA h3,show ((decide (z.Signal_<0))||(decide (z.Signal_>(m.Signals.length:Int))))=true by simpa using h3];rfl
      ·rw [bB h3,show ((decide (z.Signal_<0))||(decide (z.Signal_>(m.Signals.length:Int))))=false by rw [bI];simpa using h3,l9]
       cases h4:Bt (m.Lanes.length:Int) 0 (z.Parts.map (·.Lane_))
       ·rfl
       ·rw [bB (by decide)]
        have:=Mn (F:=O5 ⟨m⟩ z) z.Parts (Nd m) (2:Int) (fun j p hp=>by
          have hj:=H3 hp
          have hk:=Ln h4 p.Lane_ (List.mem_map.2 ⟨p,lF hp,rfl⟩)
          unfold O5 Nd
          dsimp only
          rw [J5 hj,C4 hp,l8,lA,FG B hk.1 hk.2,H4 hj (by omega)]
          cases h5:(decide (p.From<0)||decide (p.From≥p.To))
          ·simp only [bG,l8,lA]
           cases (false||decide (p.To>X8 m p.Lane_)||decide (p.Rank<0)||decide (p.Rank>100))<;>rfl
          ·rfl) (by unfold O5;rw [H5];rfl)
        rw [this]
        cases z.Parts.any (Nd m)<;>rfl) (by
    unfold O6
    dsimp only
    rw [H5];rfl)
  unfold Q3
  rw [h]
  cases K2 (zoneE m) 0 m.Zones<;>rfl
theorem RD {m:Map}(B:Bear m)(Z:BearZ m){i:Nat}{z:Zone}(hz:m.Zones[i]? =some z):Eu m z=some ((zoneE m i z).getD 0):=by
  have hb:=B.lanes
  have p1:=Z.parts z (lF hz)
  unfold Eu zoneE
  rw [RB p1 (F:=Eh z) (fun x=>rfl),lA,Tv _ _ _ (by simpa using p1),lA]
  by_cases h1:z.Parts.length<2
  ·rw [bA h1,show decide ((z.Parts.length:Int)<2)=true from l5 (by omega)];rfl
  ·rw [bB h1,show decide ((z.Parts.length:Int)<2)=false from l6 (by omega),l9]
   by_cases h2:6<z.Parts.length
   ·rw [bA h2,show decide ((z.Parts.length:Int)>6)=true from l5 (by omega)];rfl
   ·rw [bB h2,show decide ((z.Parts.length:Int)>6)=false from l6 (by omega),l9]
    by_cases h3:z.Signal_<0∨(m.Signals.length:Int)<z.Signal_
    ·rw [bA h3,show ((decide (z.Signal_<0))||(decide (z.Signal_>(m.Signals.length:Int))))=true by simpa using h3];rfl
    ·rw [bB h3,show ((decide (z.Signal_<0))||(decide (z.Signal_>(m.Signals.length:Int))))=false by rw [bI];simpa using h3,l9]
     cases h4:Bt (m.Lanes.length:Int) 0 (z.Parts.map (·.Lane_))
     ·rfl
     ·rw [bB (by decide)]
      have:=Mn (F:=Y8 m z) z.Parts (Nd m) (2:Int) (fun j p hp=>by
        have hj:=H3 hp
        have hk:=Ln h4 p.Lane_ (List.mem_map.2 ⟨p,lF hp,rfl⟩)
        obtain ⟨l,e1,e2⟩:=BJ B hk.1 hk.2
        unfold Y8 Nd
        rw [J5 hj,C4 hp,l8,lA,e1,H4 hj (by omega)]
        cases h5:(decide (p.From<0)||decide (p.From≥p.To))
        ·simp only [bG,l8,lA,e2]
         cases (false||decide (p.To>X8 m p.Lane_)||decide (p.Rank<0)||decide (p.Rank>100))<;>rfl
        ·rfl) (by unfold Y8;rw [H5];rfl)
      rw [this]
      cases z.Parts.any (Nd m)<;>rfl
structure BearW (m:Map):Prop where
  many:m.Works.length≤1000000
noncomputable def Of (m:Map)(_:Nat)(w:Work):Option Int:=
  if w.Lane_<0∨(m.Lanes.length:Int)≤w.Lane_ then some 7
  else if (decide (w.From<0)||decide (w.From>w.To)||decide (w.To>X8 m w.Lane_)||decide (w.Begin<0)||decide (w.Begin≥w.End)||decide (w.End>1099511627776)|| !Sq w.Limit 0 ((m.Lanes[w.Lane_.toNat]?).map fun l=>(Pd l.Kind).1).get!)=true then some 2 else none
theorem RE {m:Map}(B:Bear m)(W:BearW m):Q4 ⟨m⟩=some ((K2 (Of m) 0 m.Works).getD 0):=by
  have hb:=B.lanes
  have h:=Dv m.Works (O7 ⟨m⟩) (Of m) (fun i w hw=>by
    have hi:=H3 hw
    have hm:=W.many
    unfold O7 Of
    dsimp only
    rw [J5 hi,C4 hw,l8,lA,H4 hi (by omega)]
    by_cases h1:w.Lane_<0∨(m.Lanes.length:Int)≤w.Lane_
    ·rw [bA h1,show ((decide (w.Lane_<0))||(decide (w.Lane_≥(m.Lanes.length:Int))))=true by simpa using h1];rfl
    ·rw [bB h1,show ((decide (w.Lane_<0))||(decide (w.Lane_≥(m.Lanes.length:Int))))=false by rw [bI];simpa using h1,l9]
     obtain ⟨l,e1,e2⟩:=Vm (m:=m) (k:=w.Lane_) (by omega) (by omega)
     rw [e2,lA,DM,lA,FG B (by omega) (by omega),Lm,e1]
     simp only [lE,Option.get!_some]
     cases (decide (w.From<0)||decide (w.From>w.To))
     ·simp only [bG,l8,lA]
      cases (false||decide (w.To>X8 m w.Lane_)||decide (w.Begin<0)||decide (w.Begin≥w.End)||decide (w.End>1099511627776))
      ·simp only [bG,l8,lA]
       by_cases hq:Sq w.Limit 0 (Pd l.Kind).1=true<;>simp [hq]
      ·rfl
     ·rfl) (by
    unfold O7
    dsimp only
    rw [H5];rfl)
  unfold Q4
  rw [h]
  cases K2 (Of m) 0 m.Works<;>rfl
theorem RF {m:Map}(B:Bear m){i:Nat}(w:Work):Ev m w=some ((Of m i w).getD 0):=by
  have hb:=B.lanes
  unfold Ev Of
  by_cases h1:w.Lane_<0∨(m.Lanes.length:Int)≤w.Lane_
  ·rw [bA h1,show ((decide (w.Lane_<0))||(decide (w.Lane_≥(m.Lanes.length:Int))))=true by simpa using h1];rfl
  ·rw [bB h1,show ((decide (w.Lane_<0))||(decide (w.Lane_≥(m.Lanes.length:Int))))=false by rw [bI];simpa using h1,l9]
   obtain ⟨l,e1,e2⟩:=Vm (m:=m) (k:=w.Lane_) (by omega) (by omega)
   obtain ⟨l',e3,e4⟩:=BJ B (k:=w.Lane_) (by omega) (by omega)
   rw [e2]at e3
   cases e3
   rw [e2,lA,BF,lA,e4,Mm,e1]
   simp only [lE,Option.get!_some]
   cases (decide (w.From<0)||decide (w.From>w.To))
   ·simp only [bG,l8,lA]
    cases (false||decide (w.To>X8 m w.Lane_)||decide (w.Begin<0)||decide (w.Begin≥w.End)||decide (w.End>1099511627776))
    ·simp only [bG,l8,lA]
     by_cases hq:Sq w.Limit 0 (Pd l.Kind).1=true<;>simp [hq]
    ·rfl
   ·rfl
theorem KF {m:Map}(S:BearS m)(i:Nat){s:Signal}(hs:s∈m.Signals):Cr m s=some ((El m i s).getD 0):=by
  obtain ⟨p1,p2⟩:=S.phases s hs
  unfold Cr El
  rw [Mm,lA,show (0:Int)=((0:Nat):Int) from rfl,HS s p1 s.Phases 0 _ rfl (by omega),lA]
  rw [show ((0:Nat):Int)=0 from rfl,FF m s p1 p2]
  by_cases h1:s.Phases.length=0
  ·rw [bA h1,h1];rfl
  ·rw [bB h1,show ((s.Phases.length:Int)==0)=false by simp only [beq_eq_false_iff_ne];omega,l9]
   by_cases h2:6<s.Phases.length
   ·rw [bA h2,show decide ((s.Phases.length:Int)>6)=true from l5 (by omega)];rfl
   ·rw [bB h2,show decide ((s.Phases.length:Int)>6)=false from l6 (by omega),l9]
    cases Sq s.Offset 0 1099511627776
    ·rfl
    ·cases (s.Phases.any fun p=> !Sq p.Ticks 1 10000)
     ·cases (s.Phases.any fun p=> !Bt m.Lanes.length 0 p.Green)<;>rfl
     ·rfl
/-- All lists of a map are of bearable lengths. -/
structure BearM (m:Map):Prop where
  toBear:Bear m
  toBearS:BearS m
  toBearZ:BearZ m
  toBearW:BearW m
theorem BearM.lanes {m:Map}(B:BearM m):m.Lanes.length≤1000000:=B.toBear.lanes
noncomputable def Ws (m:Map):Int:=
  if Sq m.Version 0 1099511627776=false then 2
  else if m.Lanes.length=0 then 6
  else if 12<m.Lanes.length∨12<m.Zones.length∨4<m.Signals.length∨8<m.Works.length then 8
  else ((K2 (laneE m.Lanes.length) 0 m.Lanes).or ((K2 (Jq m) 0 m.Lanes).or ((K2 (El m) 0 m.Signals).or ((K2 (zoneE m) 0 m.Zones).or (K2 (Of m) 0 m.Works))))).getD 0
theorem Z0 {α:Type}{g:Nat→α→Option Int}(h: ∀i a e,g i a=some e→e≠0): ∀{l:List α} {i:Nat} {e:Int},K2 g i l=some e→e≠0
  | [],_,_,q=>by cases q
  |a::r,i,e,q=>by
   unfold K2 at q
   cases hg:g i a with
   |some e'=>rw [hg]at q;cases q;exact h i a e hg
   |none=>rw [hg]at q;exact Z0 h q
theorem Vn {m:Map}{i:Nat}{z:Zone}{e:Int}(h:zoneE m i z=some e):e≠0:=by
  unfold zoneE at h
  repeat' split at h
  all_goals first|(cases h;decide)|cases h
theorem Pf {m:Map}{i:Nat}{z:Signal}{e:Int}(h:El m i z=some e):e≠0:=by
  unfold El at h
  repeat' split at h
  all_goals first|(cases h;decide)|cases h
theorem BK {m:Map}{i:Nat}{z:Work}{e:Int}(h:Of m i z=some e):e≠0:=by
  unfold Of at h
  repeat' split at h
  all_goals first|(cases h;decide)|cases h
theorem BL {m:Map}{i:Nat}{z:Lane}{e:Int}(h:Jq m i z=some e):e≠0:=Z0 (fun _ _ _=>NE) h
/-- A loop that goes on as long as there is no error. -/
theorem RG {α:Type}{F:Int×Int→Option (Stp (Int×Int) Int)}(l:List α)(g:Nat→α→Option Int)(hg: ∀i a e,g i a=some e→e≠0)(hl:l.length≤1000000)
    (hF: ∀(i:Nat) a,l[i]? =some a→F (0,(i:Int))=some (.go ((g i a).getD 0,((i+1:Nat):Int)))) (h0: ∀(i:Nat) (e:Int),e≠0→F (e,(i:Int))=some (.out e)) (h1:F (0,(l.length:Int))=some (.out 0)) (e0:Option Int) (he: ∀e,e0=some e→e≠0):
    loop F (e0.getD 0,0)=some ((e0.or (K2 g 0 l)).getD 0):=by
  have key: ∀(r:List α) (i:Nat),l.drop i=r→i≤l.length→loop F (0,(i:Int))=some ((K2 g i r).getD 0):=by
    intro r
    induction r with
    |nil=>
     intro i hi hil
     have:=S8 hi
     obtain rfl:i=l.length:=by omega
     exact G7 h1
    |cons a r ih=>
     intro i hi hil
     have hlt:=Q7 hi
     have hs:=hF i a (Kl hi)
     rw [M5 hs]
     unfold K2
     cases h:g i a with
     |some e=>exact G7 (h0 (i+1) e (hg i a e h))
     |none=>exact ih (i+1) (M1 hi) (by omega)
  cases e0 with
  |some e=>exact G7 (h0 0 e (he e rfl))
  |none=>exact key l 0 rfl (by omega)
theorem BM {m:Map}(B:BearM m):Kk m=some (Ws m):=by
  have hb:=B.lanes
  unfold Kk Ws
  rw [Mm,lA]
  cases Sq m.Version 0 1099511627776
  ·rfl
  ·simp only [bF,l9,Bool.true_eq_false,if_false]
   by_cases h1:m.Lanes.length=0
   ·rw [bA h1,h1];rfl
   ·rw [bB h1,show ((m.Lanes.length:Int)==0)=false by simp only [beq_eq_false_iff_ne];omega,l9]
    by_cases h2:12<m.Lanes.length∨12<m.Zones.length∨4<m.Signals.length∨8<m.Works.length
    ·rw [bA h2,show ((((decide ((m.Lanes.length:Int)>12))||(decide ((m.Zones.length:Int)>12)))||(decide ((m.Signals.length:Int)>4)))||(decide ((m.Works.length:Int)>8)))=true by simp;omega];rfl
    ·rw [bB h2,show ((((decide ((m.Lanes.length:Int)>12))||(decide ((m.Zones.length:Int)>12)))||(decide ((m.Signals.length:Int)>4)))||(decide ((m.Works.length:Int)>8)))=false by simp;omega,l9]
     rw [HQ B.toBear]
     cases H:K2 (laneE m.Lanes.length) 0 m.Lanes with
     |some e=>rfl
     |none=>
      have n1: ∀e,K2 (Jq m) 0 m.Lanes=some e→e≠0:=fun e h=>Z0 (fun _ _ _=>BL) h
      have n2: ∀e,(K2 (Jq m) 0 m.Lanes).or (K2 (El m) 0 m.Signals)=some e→e≠0:=fun e h=>by
        rcases Option.or_eq_some_iff.1 h with h|⟨_,h⟩
        ·exact n1 e h
        ·exact Z0 (fun _ _ _=>Pf) h
      have n3: ∀e,((K2 (Jq m) 0 m.Lanes).or (K2 (El m) 0 m.Signals)).or (K2 (zoneE m) 0 m.Zones)=some e→e≠0:=fun e h=>by
        rcases Option.or_eq_some_iff.1 h with h|⟨_,h⟩
        ·exact n2 e h
        ·exact Z0 (fun _ _ _=>Vn) h
      simp only [KA,thenS,Option.none_or]
      rw [(DQ B.toBear H).2,lA]
      rw [RG m.Signals (El m) (fun _ _ _=>Pf) B.toBearS.many (fun i a ha=>by
       have hi:=H3 ha
       have hm:=B.toBearS.many
       unfold Dq
       dsimp only
       rw [J5 hi,C4 ha,bC,show ((0:Int)==0)=true from rfl,l8,lA,KF B.toBearS i (lF ha),H4 hi (by omega)];rfl) (fun i e he=>by
       unfold Dq
       dsimp only
       rw [show (e==0)=false by simpa using he,Bool.and_false];rfl) (by unfold Dq;dsimp only;rw [H5];rfl) _ n1,lA]
      rw [RG m.Zones (zoneE m) (fun _ _ _=>Vn) B.toBearZ.many (fun i a ha=>by
       have hi:=H3 ha
       have hm:=B.toBearZ.many
       unfold Dp
       dsimp only
       rw [J5 hi,C4 ha,bC,show ((0:Int)==0)=true from rfl,l8,lA,RD B.toBear B.toBearZ ha,H4 hi (by omega)];rfl) (fun i e he=>by
       unfold Dp
       dsimp only
       rw [show (e==0)=false by simpa using he,Bool.and_false];rfl) (by unfold Dp;dsimp only;rw [H5];rfl) _ n2,lA]
      rw [RG m.Works (Of m) (fun _ _ _=>BK) B.toBearW.many (fun i a ha=>by
       have hi:=H3 ha
       have hm:=B.toBearW.many
       unfold Do
       dsimp only
       rw [J5 hi,C4 ha,bC,show ((0:Int)==0)=true from rfl,l8,lA,RF B.toBear (i:=i) a,H4 hi (by omega)];rfl) (fun i e he=>by
       unfold Do
       dsimp only
       rw [show (e==0)=false by simpa using he,Bool.and_false];rfl) (by unfold Do;dsimp only;rw [H5];rfl) _ n3,lA]
      rw [Option.or_assoc,Option.or_assoc]
theorem BN {m:Map}(B:BearM m):W6 m=some (Ws m):=by
  have hb:=B.lanes
  have s0:M7 m 0=(V8 ⟨m⟩).bind fun v2=>cond (v2 !=0) (some (.out (.inr v2))) (some (.go 1)):=rfl
  have s1:M7 m 1=(Q2 ⟨m⟩).bind fun v2=>cond (v2 !=0) (some (.out (.inr v2))) (some (.go 2)):=rfl
  have s2:M7 m 2=(P7 ⟨m⟩).bind fun v2=>cond (v2 !=0) (some (.out (.inr v2))) (some (.go 3)):=rfl
  have s3:M7 m 3=(P2 ⟨m⟩).bind fun v2=>cond (v2 !=0) (some (.out (.inr v2))) (some (.go 4)):=rfl
  have s4:M7 m 4=(Q3 ⟨m⟩).bind fun v2=>cond (v2 !=0) (some (.out (.inr v2))) (some (.go 5)):=rfl
  have s5:M7 m 5=(Q4 ⟨m⟩).bind fun v2=>cond (v2 !=0) (some (.out (.inr v2))) (some (.go 6)):=rfl
  have s6:M7 m 6=some (.out (.inl ())):=rfl
  have Fo: ∀(i j:Int) (e:Option Int) (X:Option Int),(∀e',e=some e'→e'≠0)→X=some (e.getD 0)→M7 m i=X.bind (fun v2=>cond (v2 !=0) (some (.out (.inr v2))) (some (.go j)))→loop (M7 m) i=match e with|some e'=>some (.inr e')|none=>loop (M7 m) j:=by
    intro i j e X he hX hs
    subst hX
    rw [lA]at hs
    cases e with
    |none=>exact M5 hs
    |some e'=>
     rw [Option.getD_some,show (e' !=0)=true by simpa using he e' rfl]at hs
     exact G7 hs
  unfold W6 Ws
  have hnum:V8 ⟨m⟩=some ((if Sq m.Version 0 1099511627776=false then some 2 else if m.Lanes.length=0 then some 6 else if 12<m.Lanes.length∨12<m.Zones.length∨4<m.Signals.length∨8<m.Works.length then some 8 else none:Option Int).getD 0):=by
    unfold V8
    dsimp only
    rw [Lm,lA]
    cases Sq m.Version 0 1099511627776
    ·rfl
    ·simp only [bF,l9,Bool.true_eq_false,if_false]
     by_cases h1:m.Lanes.length=0
     ·rw [bA h1,h1];rfl
     ·rw [bB h1,show ((m.Lanes.length:Int)==0)=false by simp only [beq_eq_false_iff_ne];omega,l9]
      by_cases h2:12<m.Lanes.length∨12<m.Zones.length∨4<m.Signals.length∨8<m.Works.length
      ·rw [bA h2,show ((((decide ((m.Lanes.length:Int)>12))||(decide ((m.Zones.length:Int)>12)))||(decide ((m.Signals.length:Int)>4)))||(decide ((m.Works.length:Int)>8)))=true by simp;omega];rfl
      ·rw [bB h2,show ((((decide ((m.Lanes.length:Int)>12))||(decide ((m.Zones.length:Int)>12)))||(decide ((m.Signals.length:Int)>4)))||(decide ((m.Works.length:Int)>8)))=false by simp;omega];rfl
  rw [Fo 0 1 _ _ (by (repeat' split);all_goals (intro e' h;first|(cases h;decide)|cases h)) hnum s0]
  by_cases q1:Sq m.Version 0 1099511627776=false
  ·rw [bA q1,bA q1];rfl
  ·rw [bB q1,bB q1]
   by_cases q2:m.Lanes.length=0
   ·rw [bA q2,bA q2];rfl
   ·rw [bB q2,bB q2]
    by_cases q3:12<m.Lanes.length∨12<m.Zones.length∨4<m.Signals.length∨8<m.Works.length
    ·rw [bA q3,bA q3];rfl
    ·rw [bB q3,bB q3]
     dsimp only
     rw [Fo 1 2 _ _ (fun e' h=>Z0 (fun _ _ _=>BG) h) (QX B.toBear) s1]
     cases H:K2 (laneE m.Lanes.length) 0 m.Lanes with
     |some e=>rfl
     |none=>
      dsimp only
      rw [Fo 2 3 _ _ (fun e' h=>Z0 (fun _ _ _=>BL) h) (DQ B.toBear H).1 s2]
      cases K2 (Jq m) 0 m.Lanes with
      |some e=>rfl
      |none=>
       dsimp only
       rw [Fo 3 4 _ _ (fun e' h=>Z0 (fun _ _ _=>Pf) h) (KE B.toBear B.toBearS) s3]
       cases K2 (El m) 0 m.Signals with
       |some e=>rfl
       |none=>
        dsimp only
        rw [Fo 4 5 _ _ (fun e' h=>Z0 (fun _ _ _=>Vn) h) (RC B.toBear B.toBearZ) s4]
        cases K2 (zoneE m) 0 m.Zones with
        |some e=>rfl
        |none=>
         dsimp only
         rw [Fo 5 6 _ _ (fun e' h=>Z0 (fun _ _ _=>BK) h) (RE B.toBear B.toBearW) s5]
         cases K2 (Of m) 0 m.Works with
         |some e=>rfl
         |none=>dsimp only;rw [G7 s6];rfl
/-- What a valid map is. -/
structure ValR (m:Map):Prop where
  ver:0≤m.Version∧m.Version≤1099511627776
  pos:0<m.Lanes.length
  lanes:m.Lanes.length≤12
  zones:m.Zones.length≤12
  signals:m.Signals.length≤4
  works:m.Works.length≤8
  laneE:K2 (laneE m.Lanes.length) 0 m.Lanes=none
  Jq:K2 (Jq m) 0 m.Lanes=none
  El:K2 (El m) 0 m.Signals=none
  zoneE:K2 (zoneE m) 0 m.Zones=none
  Of:K2 (Of m) 0 m.Works=none
theorem NG {α:Type}{g:Nat→α→Option Int}{l:List α}(h: ∀i a e,g i a=some e→e≠0)(h0:(K2 g 0 l).getD 0=0):K2 g 0 l=none:=by
  cases q:K2 g 0 l with
  |none=>rfl
  |some e=>rw [q]at h0;exact absurd h0 (Z0 h q)
theorem chkR_zero {m:Map}:Ws m=0↔ValR m:=by
  unfold Ws
  constructor
  ·intro h
   split at h
   ·cases h
   ·rename_i h1
    split at h
    ·cases h
    ·rename_i h2
     split at h
     ·cases h
     ·rename_i h3
      simp only [Sq,Bool.not_eq_false,bD,l7]at h1
      have key: ∀{o r:Option Int},(∀e,o=some e→e≠0)→(o.or r).getD 0=0→o=none∧r.getD 0=0:=by
        intro o r ho hr
        cases o with
        |none=>exact ⟨rfl,hr⟩
        |some e=>exact absurd hr (ho e rfl)
      obtain ⟨a1,h⟩:=key (fun e h=>Z0 (fun _ _ _=>BG) h) h
      obtain ⟨a2,h⟩:=key (fun e h=>Z0 (fun _ _ _=>BL) h) h
      obtain ⟨a3,h⟩:=key (fun e h=>Z0 (fun _ _ _=>Pf) h) h
      obtain ⟨a4,h⟩:=key (fun e h=>Z0 (fun _ _ _=>Vn) h) h
      exact ⟨h1,by omega,by omega,by omega,by omega,by omega,a1,a2,a3,a4,NG (fun _ _ _=>BK) h⟩
  ·rintro ⟨h1,h2,h3,h4,h5,h6,a1,a2,a3,a4,a5⟩
   rw [bB (by simp only [Sq,Bool.not_eq_false,bD,l7];exact h1),bB (by omega),bB (by omega),a1,a2,a3,a4,a5];rfl
section
variable {m:Map}
theorem ValR.laneOK (V:ValR m){i:Nat}{l:Lane}(h:m.Lanes[i]? =some l):LaneOK m.Lanes.length i l:=Rk V.laneE h
theorem ValR.next (V:ValR m){i:Nat}{l:Lane}(h:m.Lanes[i]? =some l){k:Int}(hk:k∈l.Next):(i:Int)<k∧k<m.Lanes.length:=by
  have:=Ln (V.laneOK h).next k hk
  omega
end
/-- The lanes in which a lane goes on. -/
def nextOf (m:Map)(a:Nat):List Int:=((m.Lanes[a]?).map (·.Next)).getD []
theorem ValR.nextOf {m:Map}(V:ValR m){a:Nat}{k:Int}(hk:k∈Roadsz.nextOf m a):(a:Int)<k∧k<m.Lanes.length:=by
  unfold Roadsz.nextOf at hk
  cases h:m.Lanes[a]? with
  |none=>rw [h]at hk;cases hk
  |some l=>rw [h]at hk;exact V.next h hk
def Mo (m:Map)(b:Int):Nat→Nat→Bool
  |0,_=>false
  |n+1,a=>(nextOf m a).any fun k=>k==b||Mo m b n k.toNat
theorem HV {m:Map}(V:ValR m)(b:Int): ∀(n n' a:Nat),m.Lanes.length≤a+n→m.Lanes.length≤a+n'→Mo m b n a=Mo m b n' a:=by
  intro n
  induction n with
  |zero=>
   intro n' a h h'
   have:nextOf m a= []:=by
     unfold nextOf
     rw [List.getElem?_eq_none (by omega)];rfl
   cases n' with
   |zero=>rfl
   |succ n'=>rw [Mo,Mo,this];rfl
  |succ n ih=>
   intro n' a h h'
   cases n' with
   |zero=>
    have:nextOf m a= []:=by
      unfold nextOf
      rw [List.getElem?_eq_none (by omega)];rfl
    rw [Mo,Mo,this];rfl
   |succ n'=>
    rw [Mo,Mo]
    rw [Bool.eq_iff_iff,List.any_eq_true,List.any_eq_true]
    refine exists_congr fun k=>and_congr_right fun hk=> ?_
    have:=V.nextOf hk
    rw [ih n' k.toNat (by omega) (by omega)]
/-- Does a lane lead to another one? -/
def Df (m:Map)(a:Nat)(b:Int):Bool:=Mo m b m.Lanes.length a
theorem Sa {m:Map}(V:ValR m)(a:Nat)(b:Int):Df m a b=(nextOf m a).any fun k=>k==b||Df m k.toNat b:=by
  unfold Df
  rw [HV V b _ (m.Lanes.length+1) a (by omega) (by omega),Mo]
theorem KG {x:Nat}(h:x<2^32):IntKind.wrap .u32 (x:Int)=(x:Int):=by
  have e:IntKind.wrap .u32 (x:Int)=(x:Int) % 4294967296:=rfl
  rw [e];omega
theorem RH {x:Int}(h0:0≤x)(h:x<4294967296):IntKind.wrap .u64 x=x:=by
  have e:IntKind.wrap .u64 x=x % 18446744073709551616:=rfl
  rw [e];omega
theorem UN {x:Nat}(_:x<2^32):BitVec.ofInt 32 (x:Int)=BitVec.ofNat 32 x:=by
  rw [BitVec.ofInt_natCast]
theorem YN {x y:Nat}(hx:x<2^32)(hy:y<2^32):IntKind.wrap .u32 (((BitVec.ofInt (IntKind.bits .u32) (x:Int)|||BitVec.ofInt (IntKind.bits .u32) (y:Int)).toNat:Nat))=((x|||y:Nat):Int):=by
  have:(BitVec.ofInt (IntKind.bits .u32) (x:Int)|||BitVec.ofInt (IntKind.bits .u32) (y:Int)).toNat=x|||y:=by
    show (BitVec.ofInt 32 (x:Int)|||BitVec.ofInt 32 (y:Int)).toNat=x|||y
    rw [UN hx,UN hy,BitVec.toNat_or,BitVec.toNat_ofNat,BitVec.toNat_ofNat,Nat.mod_eq_of_lt hx,Nat.mod_eq_of_lt hy]
  rw [this]
  exact KG (Nat.or_lt_two_pow hx hy)
theorem ZD (x:Nat)(b:Nat):(((x>>>b)&&&1)==1)=x.testBit b:=by
  rw [Nat.testBit,Nat.and_comm]
  have:1&&& (x>>>b)=(x>>>b) % 2:=Nat.one_and_eq_mod_two _
  rw [this]
  rcases Nat.mod_two_eq_zero_or_one (x>>>b)with h|h<;>rw [h]<;>rfl
theorem ZE {k:Int}(h0:0≤k)(h:k<32):QO .u32 1 (IntKind.wrap .u64 k)=some ((2^k.toNat:Nat):Int):=by
  rw [RH h0 (by omega)]
  unfold QO
  rw [bB (by omega)]
  have:min k.toNat (IntKind.bits .u32)=k.toNat:=by show min k.toNat 32=_;omega
  rw [this,Int.one_mul,show ((2:Int)^k.toNat)=((2^k.toNat:Nat):Int) by simp]
  rw [KG (Nat.pow_lt_pow_right (by decide) (by omega))]
theorem KH {x:Nat}(hx:x<2^32){b:Int}(h0:0≤b)(h:b<32):Fi (x:Int) b=some (x.testBit b.toNat):=by
  unfold Fi UE
  rw [RH h0 (by omega),bB (by omega),lA]
  have e1:min b.toNat (IntKind.bits .u32)=b.toNat:=by show min b.toNat 32=_;omega
  have e2:((x:Int).fdiv (2^b.toNat))=((x>>>b.toNat:Nat):Int):=by
    rw [show ((2:Int)^b.toNat)=((2^b.toNat:Nat):Int) by simp,Nat.shiftRight_eq_div_pow]
    rw [Int.fdiv_eq_ediv_of_nonneg _ (Int.natCast_nonneg _)];rfl
  have hy:x>>>b.toNat<2^32:=by rw [Nat.shiftRight_eq_div_pow];exact Nat.lt_of_le_of_lt (Nat.div_le_self _ _) hx
  rw [e1,e2]
  have e3:(BitVec.ofInt (IntKind.bits .u32) ((x>>>b.toNat:Nat):Int)&&&BitVec.ofInt (IntKind.bits .u32) 1).toNat=x>>>b.toNat&&&1:=by
    show (BitVec.ofInt 32 ((x>>>b.toNat:Nat):Int)&&&BitVec.ofInt 32 ((1:Nat):Int)).toNat=_
    rw [UN hy,UN (by decide),BitVec.toNat_and,BitVec.toNat_ofNat,BitVec.toNat_ofNat,Nat.mod_eq_of_lt hy]
  rw [e3,KG (Nat.lt_of_le_of_lt (Nat.and_le_right) (by decide)),← ZD]
  congr 1
  rw [Bool.eq_iff_iff];simp only [bJ];omega
abbrev XL:=Int×Int×Int×Int×Int×Int×Int×Int×Int×Int×Int×Int
def Yu (v:List Int):XL:=((v.getD 0 0),(v.getD 1 0),(v.getD 2 0),(v.getD 3 0),(v.getD 4 0),(v.getD 5 0),(v.getD 6 0),(v.getD 7 0),(v.getD 8 0),(v.getD 9 0),(v.getD 10 0),(v.getD 11 0))
def YV (t:XL):List Int:= [t.1,t.2.1,t.2.2.1,t.2.2.2.1,t.2.2.2.2.1,t.2.2.2.2.2.1,t.2.2.2.2.2.2.1,t.2.2.2.2.2.2.2.1,t.2.2.2.2.2.2.2.2.1,t.2.2.2.2.2.2.2.2.2.1,t.2.2.2.2.2.2.2.2.2.2.1,t.2.2.2.2.2.2.2.2.2.2.2]
theorem LP {v:List Int}(h:v.length=12):YV (Yu v)=v:=by
  match v,h with
  | [_,_,_,_,_,_,_,_,_,_,_,_],_=>rfl
def Be (l:List Nat):List Int:=l.map fun x:Nat=>(x:Int)
theorem Wt {l:List Nat}{i:Nat}{x:Nat}(h:l[i]? =some x):E5 (Be l) (i:Int)=some (x:Int):=C4 (by rw [Be,lI,h];rfl)
/-- The round of the inner loop. -/
theorem KI {l:List Nat}(hl:l.length=12){i:Nat}{x:Nat}(hx:l[i]? =some x)(hx32:x<2^32){k:Int}{y:Nat}(hk0:0≤k)(hk:k<12)(hy:l[k.toNat]? =some y)(hy32:y<2^32){ln:Lane}{j:Nat}(hj:ln.Next[j]? =some k)(hn:ln.Next.length≤1000000)(z:XL):
    Bn ((i:Int),z) ln ((j:Int),Yu (Be l))=some (.go (((j+1:Nat):Int),Yu (Be (l.set i (x|||(y|||2^k.toNat)))))):=by
  have hi:i<12:=by have:=(lH.1 hx).1;omega
  have hp:2^k.toNat<2^32:=Nat.pow_lt_pow_right (by decide) (by omega)
  unfold Bn
  dsimp only
  rw [J5 (H3 hj),C4 hj,l8,lA]
  have e: ∀t:XL,[t.1,t.2.1,t.2.2.1,t.2.2.2.1,t.2.2.2.2.1,t.2.2.2.2.2.1,t.2.2.2.2.2.2.1,t.2.2.2.2.2.2.2.1,t.2.2.2.2.2.2.2.2.1,t.2.2.2.2.2.2.2.2.2.1,t.2.2.2.2.2.2.2.2.2.2.1,t.2.2.2.2.2.2.2.2.2.2.2]=YV t:=fun _=>rfl
  rw [e,LP (by simpa [Be] using hl),Wt hx,lA]
  have hy':=Wt hy
  rw [show ((k.toNat:Nat):Int)=k by omega]at hy'
  rw [hy',lA,ZE hk0 (by omega),lA,lA,YN hy32 hp,YN hx32 (Nat.or_lt_two_pow hy32 hp)]
  unfold MS
  rw [bA ⟨by omega,by simp [Be];omega⟩,lA,H4 (H3 hj) (by omega)]
  have:(Be l).set (i:Int).toNat ((x|||(y|||2^k.toNat):Nat):Int)=Be (l.set i (x|||(y|||2^k.toNat))):=by
    rw [bM,Be,Be,List.map_set]
  rw [this];rfl
/-- What is known of the sets of the lanes from a number on. -/
structure Reach (m:Map)(i:Nat)(l:List Nat):Prop where
  len:l.length=12
  small: ∀(a x:Nat),l[a]? =some x→x<2^32
  zero: ∀(a:Nat),a<i→l[a]? =some 0
  bits: ∀(a x:Nat),i≤a→a<m.Lanes.length→l[a]? =some x→∀b:Nat,x.testBit b=Df m a (b:Int)
theorem Reach.get {m:Map}{i:Nat}{l:List Nat}(R:Reach m i l){a:Nat}(h:a<12): ∃x,l[a]? =some x∧x<2^32:=by
  have:=R.len
  exact ⟨l[a],lG (by omega),R.small a _ (lG (by omega))⟩
theorem RI {m:Map}(V:ValR m){i:Nat}{ln:Lane}(hln:m.Lanes[i]? =some ln){l0:List Nat}(R:Reach m (i+1) l0)(z:XL): ∀(r:List Int) (j:Nat) (l:List Nat) (x:Nat),ln.Next.drop j=r→l.length=12→l[i]? =some x→x<2^32→(∀a:Nat,a≠i→l[a]? =l0[a]?)→(∀b:Nat,x.testBit b=(ln.Next.take j).any fun k=>k==(b:Int)||Df m k.toNat (b:Int))→
    ∃l',loop (Bn ((i:Int),z) ln) ((j:Int),Yu (Be l))=some (Yu (Be l'))∧Reach m i l':=by
  have hi:=H3 hln
  have h12:=V.lanes
  have hn:=(V.laneOK hln).few
  intro r
  induction r with
  |nil=>
   intro j l x hj hl hx hx32 hoth hb
   have hjl:=S8 hj
   refine ⟨l,G7 ?_,hl,fun a y hy=> ?_,fun a ha=> ?_,fun a y ha ha' hy b=> ?_⟩
   ·unfold Bn
    dsimp only
    rw [show decide ((j:Int)< (ln.Next.length:Int))=false from l6 (by omega)];rfl
   ·by_cases e:a=i
    ·subst e;rw [hx]at hy;cases hy;exact hx32
    ·rw [hoth a e]at hy;exact R.small a y hy
   ·rw [hoth a (by omega)];exact R.zero a (by omega)
   ·by_cases e:a=i
    ·subst e;rw [hx]at hy;cases hy
     rw [hb b,Sa V a,List.take_of_length_le hjl]
     unfold Roadsz.nextOf
     rw [hln];rfl
    ·rw [hoth a e]at hy;exact R.bits a y (by omega) ha' hy b
  |cons k r ih=>
   intro j l x hj hl hx hx32 hoth hb
   have hk:=Kl hj
   have hkm:=V.next hln (lF hk)
   obtain ⟨y,hy,hy32⟩:=R.get (a:=k.toNat) (by omega)
   have hy':l[k.toNat]? =some y:=by rw [hoth k.toNat (by omega)];exact hy
   have hp:2^k.toNat<2^32:=Nat.pow_lt_pow_right (by decide) (by omega)
   rw [M5 (KI hl hx hx32 (by omega) (by omega) hy' hy32 hk (by omega) z)]
   refine ih (j+1) _ _ (M1 hj) (by simpa using hl) (by rw [List.getElem?_set_self (by omega)]) (Nat.or_lt_two_pow hx32 (Nat.or_lt_two_pow hy32 hp)) (fun a ha=>by rw [List.getElem?_set_ne (Ne.symm ha)];exact hoth a ha) (fun b=> ?_)
   rw [Nat.testBit_or,Nat.testBit_or,hb b,R.bits k.toNat y (by omega) (by omega) hy b,Nat.testBit_two_pow,List.take_add_one,hk]
   simp only [Option.toList_some,List.any_append,List.any_cons,List.any_nil,Bool.or_false]
   rw [Bool.or_comm (Df m k.toNat b)]
   congr 2
   rw [Bool.eq_iff_iff];simp only [l7,bJ];omega
theorem DR {m:Map}(V:ValR m): ∀(i:Nat) (l:List Nat),i≤m.Lanes.length→Reach m i l→∃l',loop (Ac m) ((i:Int) - 1,Yu (Be l))=some (Yu (Be l'))∧Reach m 0 l'
  |0,l,_,R=>⟨l,G7 rfl,R⟩
  |i+1,l,hi,R=>by
   have h12:=V.lanes
   have hln:m.Lanes[i]? =some m.Lanes[i]:=lG (by omega)
   obtain ⟨x,hx,_⟩:=R.get (a:=i) (by omega)
   have hx0:=R.zero i (by omega)
   obtain ⟨l1,e1,R1⟩:=RI V hln R (Yu (Be l)) m.Lanes[i].Next 0 l 0 rfl R.len hx0 (by decide) (fun _ _=>rfl) (fun b=>by simp)
   obtain ⟨l2,e2,R2⟩:=DR V i l1 (by omega) R1
   refine ⟨l2,?_,R2⟩
   rw [← e2]
   refine M5 ?_
   unfold Ac
   dsimp only
   rw [show ((i+1:Nat):Int) - 1=(i:Int) by omega,show decide ((i:Int)≥0)=true from l5 (by omega),C4 hln,l8,lA]
   rw [show (0:Int)=((0:Nat):Int) from rfl,e1,lA,E0 (by omega)]
theorem RJ {m:Map}(V:ValR m): ∃l,Eb m=some (Yu (Be l))∧Reach m 0 l:=by
  have h12:=V.lanes
  have hp:=V.pos
  have R0:Reach m m.Lanes.length (List.replicate 12 0):=by
    refine ⟨by simp,fun a x hx=> ?_,fun a ha=> ?_,fun a x h1 h2=>by omega⟩
    ·rw [List.getElem?_replicate]at hx
     split at hx
     ·cases hx;decide
     ·cases hx
    ·rw [List.getElem?_replicate,bA (by omega)]
  obtain ⟨l,e,R⟩:=DR V m.Lanes.length (List.replicate 12 0) (bN _) R0
  refine ⟨l,?_,R⟩
  unfold Eb
  rw [E0 (by omega)]
  have:((0,0,0,0,0,0,0,0,0,0,0,0):XL)=Yu (Be (List.replicate 12 0)):=rfl
  rw [this,e];rfl
/-- The bit of a set. -/
theorem NH {m:Map}{l:List Nat}(V:ValR m)(R:Reach m 0 l){a b:Int}(ha:0≤a)(ha':a<m.Lanes.length)(hb:0≤b)(hb':b<32):((E5 (YV (Yu (Be l))) a).bind fun v=>Fi v b)=some (Df m a.toNat b):=by
  have h12:=V.lanes
  obtain ⟨x,hx,h32⟩:=R.get (a:=a.toNat) (by omega)
  have:=Wt hx
  rw [show ((a.toNat:Nat):Int)=a by omega]at this
  rw [LP (by simpa [Be] using R.len),this,lA,KH h32 hb hb',R.bits a.toNat x (by omega) (by omega) hx b.toNat,show ((b.toNat:Nat):Int)=b by omega]
theorem DS {m:Map}(V:ValR m){b:Int}: ∀(n a:Nat),m.Lanes.length≤a+n→Df m a b=true→(a:Int)<b∧b<m.Lanes.length
  |0,a,hn,h=>by
   rw [Sa V]at h
   have:nextOf m a= []:=by
     unfold nextOf
     rw [List.getElem?_eq_none (by omega)];rfl
   rw [this]at h
   cases h
  |n+1,a,hn,h=>by
   rw [Sa V,List.any_eq_true]at h
   obtain ⟨k,hk,h⟩:=h
   have:=V.nextOf hk
   rcases bE _ _▸h with h|h
   ·have:=eq_of_beq h;omega
   ·have:=DS V n k.toNat (by omega) h;omega
theorem RK {m:Map}(V:ValR m){a:Nat}{b:Int}(h:Df m a b=true):(a:Int)<b∧b<m.Lanes.length:=DS V m.Lanes.length a (by omega) h
theorem Rl {m:Map}(V:ValR m)(b:Int): ∀(n a:Nat),a<m.Lanes.length→m.Lanes.length≤a+n→Fk n m (a:Int) b=some (Df m a b)
  |0,a,ha,hn=>by omega
  |n+1,a,ha,hn=>by
   have hl:m.Lanes[a]? =some m.Lanes[a]:=lG ha
   have hfew:=(V.laneOK hl).few
   show Hr (Fk n) m (a:Int) b=_
   unfold Hr
   rw [C4 hl,lA,Mn m.Lanes[a].Next (fun k=>k==b||Df m k.toNat b) true (fun i k hk=>by
    have hi:=H3 hk
    have hkm:=V.next hl (lF hk)
    unfold Dr
    have:=Rl V b n k.toNat (by omega) (by omega)
    rw [show ((k.toNat:Nat):Int)=k by omega]at this
    rw [J5 hi,C4 hk,l8,lA,H4 hi (by omega)]
    cases k==b
    ·simp only [bG,l8,lA,bH]
     rw [this,lA]
     cases Df m k.toNat b<;>rfl
    ·rfl) (by
    unfold Dr
    rw [H5];rfl)]
   rw [Sa V,nextOf,hl,lE,Option.getD_some]
   cases (m.Lanes[a].Next.any fun k=>k==b||Df m k.toNat b)<;>rfl
theorem BO {m:Map}(V:ValR m){a b:Int}(h0:0≤a)(h:a<m.Lanes.length):Rg m a b=some (Df m a.toNat b):=by
  have h12:=V.lanes
  have:=Rl V b 100 a.toNat (by omega) (by omega)
  rw [show ((a.toNat:Nat):Int)=a by omega]at this
  exact this
/-! ### Is a lane there? -/
theorem Yn {m:Map}(B:BearM m){k:Int}(h0:0≤k)(h1:k<m.Lanes.length):Jk m k=some (X8 m k):=by
  obtain ⟨l,e1,e2⟩:=BJ B.toBear h0 h1
  unfold Jk
  rw [e1,lA,e2];rfl
theorem Ed (l:List Int)(hl:l.length≤1000000)(k:Int):F8 l k=some (l.contains k):=by
  unfold F8 R4
  rw [Ff l (fun x=>k==x) (by omega) (fun i a h=>by
   have hi:=H3 h
   unfold U4
   rw [J5 hi,C4 h,l8,lA]
   cases k==a<;>rfl) (by unfold U4;rw [H5];rfl)]
  rw [lA,Gr,List.contains_eq_any_beq]
theorem Mp (l:List Int)(hl:l.length≤1000000)(k:Int):Bj l k=some (l.contains k):=by
  unfold Bj
  rw [Mn l (fun x=>x==k) true (fun i a h=>by
   have hi:=H3 h
   unfold Jj
   rw [J5 hi,C4 h,l8,lA,H4 hi (by omega)]
   cases a==k<;>rfl) (by unfold Jj;rw [H5];rfl)]
  rw [List.contains_eq_any_beq,show (fun x=>x==k)=(fun x=>k==x) from funext fun x=>by rw [Bool.beq_comm]]
  cases l.any fun x=>k==x<;>rfl
/-- What comes before a lane. -/
def P9 (m:Map)(k:Int):List Int:=Aq (fun i (l:Lane)=>if l.Next.contains k then some (i:Int)else none) 0 m.Lanes
theorem DT {m:Map}(B:BearM m)(k:Int):Z4 m k=some (P9 m k):=by
  unfold Z4 P9
  have hb:=B.lanes
  rw [Wr m.Lanes (fun i (l:Lane)=>if l.Next.contains k then some (i:Int)else none) id (fun i l s h hs=>by
   have hi:=H3 h
   unfold W7
   dsimp only
   rw [J5 hi,C4 h,l8,lA,Ed _ (B.toBear.pts l (lF h)).2,lA,V0 (by simp;omega),H4 hi (by omega)]
   cases l.Next.contains k<;>rfl) (fun s=>by unfold W7;rw [H5];rfl)]
  rfl
theorem Tx {m:Map}(B:BearM m)(k:Int):Ct m k=some (P9 m k):=by
  unfold Ct P9
  have hb:=B.lanes
  rw [Wr m.Lanes (fun i (l:Lane)=>if l.Next.contains k then some (i:Int)else none) id (fun i l s h hs=>by
   have hi:=H3 h
   unfold Ew
   dsimp only
   rw [J5 hi,C4 h,l8,lA,Mp _ (B.toBear.pts l (lF h)).2,lA,V0 (by simp;omega),H4 hi (by omega)]
   cases l.Next.contains k<;>rfl) (fun s=>by unfold Ew;rw [H5];rfl)]
  rfl
def M2 (z:Zone)(k:Int):Part×Bool:=match z.Parts.find? (fun p=>p.Lane_==k)with|some p=>(p,true)|none=>(⟨0,0,0,0⟩,false)
theorem Sc {z:Zone}(hl:z.Parts.length≤1000000)(k:Int):X9 z k=some (M2 z k):=by
  unfold X9 G9 M2
  rw [Ff z.Parts (fun p=>p.Lane_==k) (by omega) (fun i a h=>by
   have hi:=H3 h
   unfold J3 Jf
   rw [J5 hi,C4 h,l8,lA,lA]
   cases a.Lane_==k<;>rfl) (by unfold J3;rw [H5];rfl),lA]
  unfold RA
  cases h:z.Parts.findIdx? (fun p=>p.Lane_==k)with
  |none=>
   have:z.Parts.find? (fun p=>p.Lane_==k)=none:=by
     rw [List.find?_eq_none]
     have:=List.findIdx?_eq_none_iff.1 h
     intro x hx;simpa using this x hx
   rw [this];rfl
  |some i=>
   obtain ⟨hi,h1,h2⟩:=List.findIdx?_eq_some_iff_getElem.1 h
   have:z.Parts.find? (fun p=>p.Lane_==k)=some z.Parts[i]:=by
     rw [List.find?_eq_some_iff_getElem]
     exact ⟨h1,i,hi,rfl,fun j hj=>by simpa using h2 j hj⟩
   rw [this]
   dsimp only
   rw [show decide ((i:Int)<0)=false from l6 (by omega),l9,QC hi];rfl
/-- Is a lane an entry of a zone? -/
def Az (m:Map)(z:Zone)(b:Int):Bool:= !(z.Parts.any fun p=>Df m p.Lane_.toNat b)
structure ZoneOK (m:Map)(z:Zone):Prop where
  two:2≤z.Parts.length
  six:z.Parts.length≤6
  sig:0≤z.Signal_∧z.Signal_≤m.Signals.length
  rise:Bt m.Lanes.length 0 (z.Parts.map (·.Lane_))=true
  part: ∀p∈z.Parts,0≤p.From∧p.From<p.To∧p.To≤X8 m p.Lane_∧0≤p.Rank∧p.Rank≤100
theorem KJ {m:Map}{i:Nat}{z:Zone}(h:zoneE m i z=none):ZoneOK m z:=by
  unfold zoneE at h
  split at h
  ·cases h
  ·rename_i h1
   split at h
   ·cases h
   ·rename_i h2
    split at h
    ·cases h
    ·rename_i h3
     split at h
     ·cases h
     ·rename_i h4
      split at h
      ·cases h
      ·rename_i h5
       refine ⟨by omega,by omega,by omega,by simpa using h4,fun p hp=> ?_⟩
       have:=List.any_eq_false.1 (bI.2 h5) p hp
       simp only [Nd,bE,l7,not_or,Int.not_lt,Int.not_le,ge_iff_le,gt_iff_lt]at this
       omega
theorem ValR.zoneOK {m:Map}(V:ValR m){z:Zone}(hz:z∈m.Zones):ZoneOK m z:=by
  obtain ⟨i,hi,rfl⟩:=List.mem_iff_getElem.1 hz
  have:=firstE_none.1 V.zoneE i _ (lG hi)
  exact KJ this
theorem ZoneOK.lane {m:Map}{z:Zone}(O:ZoneOK m z){p:Part}(hp:p∈z.Parts):0≤p.Lane_∧p.Lane_<m.Lanes.length:=Ln O.rise p.Lane_ (List.mem_map.2 ⟨p,hp,rfl⟩)
theorem BP {m:Map}(V:ValR m){z:Zone}(O:ZoneOK m z){b:Int}(h0:0≤b)(h1:b<32):Bc m z b=some (Az m z b):=by
  obtain ⟨l,e,R⟩:=RJ V
  have h6:=O.six
  unfold Bc G1 G6 Az
  rw [e,lA,Ff z.Parts (fun p=>Df m p.Lane_.toNat b) (by omega) (fun i a h=>by
   have hi:=H3 h
   have hk:=O.lane (lF h)
   have hbit:=NH V R hk.1 hk.2 h0 h1
   unfold J0 Fu
   rw [J5 hi,C4 h,l8,lA]
   cases hg:E5 (YV (Yu (Be l))) a.Lane_ with
   |none=>rw [hg]at hbit;cases hbit
   |some v=>
    rw [hg,lA]at hbit
    have hg':E5 ([(Yu (Be l)).1,(Yu (Be l)).2.1,(Yu (Be l)).2.2.1,(Yu (Be l)).2.2.2.1,(Yu (Be l)).2.2.2.2.1,(Yu (Be l)).2.2.2.2.2.1,(Yu (Be l)).2.2.2.2.2.2.1,(Yu (Be l)).2.2.2.2.2.2.2.1,(Yu (Be l)).2.2.2.2.2.2.2.2.1,(Yu (Be l)).2.2.2.2.2.2.2.2.2.1,(Yu (Be l)).2.2.2.2.2.2.2.2.2.2.1,(Yu (Be l)).2.2.2.2.2.2.2.2.2.2.2]:List Int) a.Lane_=some v:=hg
    rw [hg',lA,hbit,lA,lA]
    cases Df m a.Lane_.toNat b<;>rfl) (by unfold J0;rw [H5];rfl)]
  rw [lA,Gr,lA]
theorem Wu {m:Map}(V:ValR m){z:Zone}(O:ZoneOK m z)(b:Int):Gj m z b=some (Az m z b):=by
  have h6:=O.six
  unfold Gj Az
  rw [Mn z.Parts (fun p=>Df m p.Lane_.toNat b) false (fun i a h=>by
   have hi:=H3 h
   have hk:=O.lane (lF h)
   unfold Gi
   rw [J5 hi,C4 h,l8,lA,H4 hi (by omega)]
   cases q:a.Lane_ !=b
   ·have e:a.Lane_=b:=by simpa using q
    have:Df m a.Lane_.toNat b=false:=by
      rw [bI]
      intro h'
      have:=RK V h'
      omega
    rw [this];rfl
   ·simp only [l8,lA,bC]
    rw [BO V hk.1 hk.2,lA]
    cases Df m a.Lane_.toNat b<;>rfl) (by unfold Gi;rw [H5];rfl)]
  cases z.Parts.any fun p=>Df m p.Lane_.toNat b<;>rfl
def P6 (m:Map)(z:Zone):List Int:=Aq (fun _ (p:Part)=>if Az m z p.Lane_ then some p.Lane_ else none) 0 z.Parts
theorem KL {m:Map}(V:ValR m){z:Zone}(O:ZoneOK m z):T8 m z=some (P6 m z):=by
  have h6:=O.six
  have h12:=V.lanes
  unfold T8 P6
  rw [Wr z.Parts (fun _ (p:Part)=>if Az m z p.Lane_ then some p.Lane_ else none) id (fun i p s h hs=>by
   have hi:=H3 h
   have hk:=O.lane (lF h)
   unfold U5
   dsimp only
   rw [J5 hi,C4 h,l8,lA,BP V O hk.1 (by omega),lA,V0 (by simp;omega),H4 hi (by omega)]
   cases Az m z p.Lane_<;>rfl) (fun s=>by unfold U5;rw [H5];rfl)]
  rfl
theorem HW {m:Map}(V:ValR m){z:Zone}(O:ZoneOK m z):Ht m z=some (P6 m z):=by
  have h6:=O.six
  unfold Ht P6
  rw [Wr z.Parts (fun _ (p:Part)=>if Az m z p.Lane_ then some p.Lane_ else none) id (fun i p s h hs=>by
   have hi:=H3 h
   unfold Ds
   dsimp only
   rw [J5 hi,C4 h,l8,lA,Wu V O,lA,lA,V0 (by simp;omega),H4 hi (by omega)]
   cases Az m z p.Lane_<;>rfl) (fun s=>by unfold Ds;rw [H5];rfl)]
  rfl
end Go.Abs.Roadsz
