/-
  Plain facts on the functions: what they compute, and that the law holds of it.
-/
import Derived.Test.YtgjdiioennhoeaaGreatFns4
set_option maxRecDepth 100000
set_option synthInstance.maxHeartbeats 0
set_option synthInstance.maxSize 100000
set_option linter.unusedVariables false
namespace Go.Abs.World
open Go Go.Abs
noncomputable def Nm (p1:State)(x1:(Int×State)):Option (Stp (Int×State) State):=
  cond (decide (x1.1< (p1.Agents.length:Int))) ((C3 p1.Agents x1.1).bind fun v2=>(Au ([]:List Int) v2.Route).bind fun v3=>(Au x1.2.Agents [(Agent.mk v3 v2.S v2.V v2.Len v2.Begin v2.Obey v2.Gone)]).bind fun v4=>some (.go ((D9 (x1.1+1)),(State.mk x1.2.Tick v4 x1.2.In)))) (some (.out x1.2))
noncomputable def HU [Lp](p1:State):Option State:=
  (Au ([]:List Stay) p1.In).bind fun v1=>(loop (Nm p1) (0,(State.mk p1.Tick [] v1))).bind fun y1=>some y1
instance (a)(b)(c)(d):Le (@T5 V0 a b c d) (T5 a b c d):=by unfold T5;infer_instance
instance:Le (@Pm V0) (Pm):=by unfold Pm;infer_instance
instance (a):Le (@Ks V0 a) (Ks a):=by unfold Ks;infer_instance
instance (a):Le (@Iv V0 a) (Iv a):=by unfold Iv;infer_instance
instance curve_root_le (a):Le (@Et V0 a) (Et a):=by unfold Et;infer_instance
instance (a)(b):Le (@W9 V0 a b) (W9 a b):=by unfold W9;infer_instance
instance (a):Le (@Eb V0 a) (Eb a):=by unfold Eb;infer_instance
instance (a)(b)(c):Le (@Av V0 a b c) (Av a b c):=by unfold Av;infer_instance
instance (a)(b):Le (@Q4 V0 a b) (Q4 a b):=by unfold Q4;infer_instance
instance (a):Le (@U3 V0 a) (U3 a):=by unfold U3;infer_instance
instance (a)(b):Le (@O9 V0 a b) (O9 a b):=by unfold O9;infer_instance
instance (a):Le (@T4 V0 a) (T4 a):=by unfold T4;infer_instance
instance (a):Le (@G6 V0 a) (G6 a):=by unfold G6;infer_instance
instance (a):Le (@E9 V0 a) (E9 a):=by unfold E9;infer_instance
instance (a)(b):Le (@R9 V0 a b) (R9 a b):=by unfold R9;infer_instance
instance (a)(b)(c):Le (@E6 V0 a b c) (E6 a b c):=by unfold E6;infer_instance
instance (a)(b):Le (@G4 V0 a b) (G4 a b):=by unfold G4;infer_instance
instance (a)(b):Le (@E7 V0 a b) (E7 a b):=by unfold E7;infer_instance
instance (a)(b):Le (@O1 V0 a b) (O1 a b):=by unfold O1;infer_instance
instance (a):Le (@R7 V0 a) (R7 a):=by unfold R7;infer_instance
instance piecesGo_le (pts:List Spot): ∀(n i:Nat) (s:Int),Le (@Hf V0 pts n i s) (Hf pts n i s)
  |0,i,s=>Le.refl _
  |n+1,i,s=>by
   unfold Hf
   have:=fun i s=>piecesGo_le pts n i s
   infer_instance -- curve_root_le
instance (a):Le (@Ro V0 a) (Ro a):=by unfold Ro;infer_instance
instance (a):Le (@Ec V0 a) (Ec a):=by unfold Ec;infer_instance
instance curve_Length_le (a):Le (@Cf V0 a) (Cf a):=by unfold Cf;infer_instance
instance (a)(b):Le (@Bu V0 a b) (Bu a b):=by unfold Bu;infer_instance
instance (a)(b)(c):Le (@Q5 V0 a b c) (Q5 a b c):=by unfold Q5;infer_instance
instance (a)(b):Le (@Q6 V0 a b) (Q6 a b):=by unfold Q6;infer_instance
instance (a):Le (@U4 V0 a) (U4 a):=by unfold U4;infer_instance
instance (a)(b):Le (@Q7 V0 a b) (Q7 a b):=by unfold Q7;infer_instance
instance (a):Le (@U5 V0 a) (U5 a):=by unfold U5;infer_instance
instance (a)(b):Le (@S3 V0 a b) (S3 a b):=by unfold S3;infer_instance
instance (a)(b):Le (@N9 V0 a b) (N9 a b):=by unfold N9;infer_instance
instance roads_Check_le (a):Le (@Be V0 a) (Be a):=by unfold Be;infer_instance
instance (a)(b):Le (@T0 V0 a b) (T0 a b):=by unfold T0;infer_instance
instance (a)(b):Le (@M7 V0 a b) (M7 a b):=by unfold M7;infer_instance
instance (a)(b)(c):Le (@Aa V0 a b c) (Aa a b c):=by unfold Aa;infer_instance
instance (a)(b):Le (@Ee V0 a b) (Ee a b):=by unfold Ee;infer_instance
instance (a)(b)(c):Le (@P5 V0 a b c) (P5 a b c):=by unfold P5;infer_instance
instance (a)(b):Le (@V9 V0 a b) (V9 a b):=by unfold V9;infer_instance
instance (a)(b)(c):Le (@V7 V0 a b c) (V7 a b c):=by unfold V7;infer_instance
instance (a)(b):Le (@Y9 V0 a b) (Y9 a b):=by unfold Y9;infer_instance
instance (a)(b):Le (@U6 V0 a b) (U6 a b):=by unfold U6;infer_instance
instance (a)(b):Le (@Ax V0 a b) (Ax a b):=by unfold Ax;infer_instance
instance (a)(b):Le (@Gn V0 a b) (Gn a b):=by unfold Gn;infer_instance
instance (a)(b):Le (@Gp V0 a b) (Gp a b):=by unfold Gp;infer_instance
instance (a)(b)(c):Le (@X9 V0 a b c) (X9 a b c):=by unfold X9;infer_instance
instance (a):Le (@Bw V0 a) (Bw a):=by unfold Bw;infer_instance
instance (a)(b):Le (@Ck V0 a b) (Ck a b):=by unfold Ck;infer_instance
instance (a)(b):Le (@J0 V0 a b) (J0 a b):=by unfold J0;infer_instance
instance (a)(b):Le (@F6 V0 a b) (F6 a b):=by unfold F6;infer_instance
instance (a)(b)(c):Le (@Z0 V0 a b c) (Z0 a b c):=by unfold Z0;infer_instance
instance (a)(b)(c):Le (@Z1 V0 a b c) (Z1 a b c):=by unfold Z1;infer_instance
instance (a)(b):Le (@Cl V0 a b) (Cl a b):=by unfold Cl;infer_instance
instance (a):Le (@K8 V0 a) (K8 a):=by unfold K8;infer_instance
instance (a):Le (@J8 V0 a) (J8 a):=by unfold J8;infer_instance
instance (a)(b):Le (@Bf V0 a b) (Bf a b):=by unfold Bf;infer_instance
instance (a)(b):Le (@C8 V0 a b) (C8 a b):=by unfold C8;infer_instance
instance (a)(b)(c):Le (@D2 V0 a b c) (D2 a b c):=by unfold D2;infer_instance
instance (a)(b)(c):Le (@D0 V0 a b c) (D0 a b c):=by unfold D0;infer_instance
instance (a)(b)(c):Le (@G5 V0 a b c) (G5 a b c):=by unfold G5;infer_instance
instance (a)(b):Le (@D7 V0 a b) (D7 a b):=by unfold D7;infer_instance
instance (a)(b):Le (@I8 V0 a b) (I8 a b):=by unfold I8;infer_instance
instance (a):Le (@F7 V0 a) (F7 a):=by unfold F7;infer_instance
instance (a)(b)(c):Le (@H6 V0 a b c) (H6 a b c):=by unfold H6;infer_instance
instance (a)(b):Le (@E5 V0 a b) (E5 a b):=by unfold E5;infer_instance
instance (a)(b):Le (@H7 V0 a b) (H7 a b):=by unfold H7;infer_instance
instance (a)(b):Le (@H8 V0 a b) (H8 a b):=by unfold H8;infer_instance
instance (a):Le (@I9 V0 a) (I9 a):=by unfold I9;infer_instance
instance:Le (@F8 V0) (F8):=by unfold F8;infer_instance
instance (a)(b)(c)(d)(e):Le (@T7 V0 a b c d e) (T7 a b c d e):=by unfold T7;infer_instance
instance (a)(b)(c):Le (@N7 V0 a b c) (N7 a b c):=by unfold N7;infer_instance
instance (a)(b):Le (@U9 V0 a b) (U9 a b):=by unfold U9;infer_instance
instance (a)(b)(c):Le (@I4 V0 a b c) (I4 a b c):=by unfold I4;infer_instance
instance (a)(b)(c):Le (@G0 V0 a b c) (G0 a b c):=by unfold G0;infer_instance
instance (a)(b)(c)(d):Le (@Cm V0 a b c d) (Cm a b c d):=by unfold Cm;infer_instance
instance (a)(b)(c):Le (@P0 V0 a b c) (P0 a b c):=by unfold P0;infer_instance
instance (a)(b)(c):Le (@G9 V0 a b c) (G9 a b c):=by unfold G9;infer_instance
instance (a)(b):Le (@F3 V0 a b) (F3 a b):=by unfold F3;infer_instance
instance (a)(b):Le (@J4 V0 a b) (J4 a b):=by unfold J4;infer_instance
instance (a)(b):Le (@Iw V0 a b) (Iw a b):=by unfold Iw;infer_instance
instance (a)(b)(c):Le (@Z2 V0 a b c) (Z2 a b c):=by unfold Z2;infer_instance
instance (a)(b)(c)(d):Le (@G8 V0 a b c d) (G8 a b c d):=by unfold G8;infer_instance
instance (a)(b)(c):Le (@H9 V0 a b c) (H9 a b c):=by unfold H9;infer_instance
instance (a)(b)(c):Le (@Gd V0 a b c) (Gd a b c):=by unfold Gd;infer_instance
instance (a)(b)(c):Le (@Cn V0 a b c) (Cn a b c):=by unfold Cn;infer_instance
instance (a)(b):Le (@Ke V0 a b) (Ke a b):=by unfold Ke;infer_instance
instance (a)(b)(c):Le (@T8 V0 a b c) (T8 a b c):=by unfold T8;infer_instance
instance (a)(b)(c):Le (@Eh V0 a b c) (Eh a b c):=by unfold Eh;infer_instance
instance (a)(b)(c)(d):Le (@Gf V0 a b c d) (Gf a b c d):=by unfold Gf;infer_instance
instance (a)(b):Le (@I0 V0 a b) (I0 a b):=by unfold I0;infer_instance
instance (a)(b)(c)(d):Le (@Gs V0 a b c d) (Gs a b c d):=by unfold Gs;infer_instance
instance (a)(b)(c)(d):Le (@W0 V0 a b c d) (W0 a b c d):=by unfold W0;infer_instance
instance (a)(b):Le (@W1 V0 a b) (W1 a b):=by unfold W1;infer_instance
instance (a):Le (@Z4 V0 a) (Z4 a):=by unfold Z4;infer_instance
instance (a)(b):Le (@Az V0 a b) (Az a b):=by unfold Az;infer_instance
instance (a)(b)(c)(d):Le (@Ba V0 a b c d) (Ba a b c d):=by unfold Ba;infer_instance
instance (a)(b):Le (@Gv V0 a b) (Gv a b):=by unfold Gv;infer_instance
instance (a)(b):Le (@H4 V0 a b) (H4 a b):=by unfold H4;infer_instance
instance (a)(b):Le (@F4 V0 a b) (F4 a b):=by unfold F4;infer_instance
instance (a)(b):Le (@X3 V0 a b) (X3 a b):=by unfold X3;infer_instance
instance (a)(b)(c):Le (@G1 V0 a b c) (G1 a b c):=by unfold G1;infer_instance
instance (a)(b):Le (@I5 V0 a b) (I5 a b):=by unfold I5;infer_instance
instance (a)(b):Le (@G2 V0 a b) (G2 a b):=by unfold G2;infer_instance
instance (a)(b)(c):Le (@Bh V0 a b c) (Bh a b c):=by unfold Bh;infer_instance
instance (a)(b)(c)(d):Le (@W4 V0 a b c d) (W4 a b c d):=by unfold W4;infer_instance
instance (a)(b)(c)(d):Le (@Jm V0 a b c d) (Jm a b c d):=by unfold Jm;infer_instance
instance (a)(b)(c)(d)(e):Le (@Jn V0 a b c d e) (Jn a b c d e):=by unfold Jn;infer_instance
instance (a)(b):Le (@Pn V0 a b) (Pn a b):=by unfold Pn;infer_instance
instance (a)(b)(c):Le (@L7 V0 a b c) (L7 a b c):=by unfold L7;infer_instance
instance (a)(b)(c):Le (@M8 V0 a b c) (M8 a b c):=by unfold M8;infer_instance
instance (a)(b):Le (@N5 V0 a b) (N5 a b):=by unfold N5;infer_instance
instance (a)(b)(c)(d):Le (@P2 V0 a b c d) (P2 a b c d):=by unfold P2;infer_instance
instance (a):Le (@T1 V0 a) (T1 a):=by unfold T1;infer_instance
instance (a)(b)(c):Le (@L8 V0 a b c) (L8 a b c):=by unfold L8;infer_instance
instance (a)(b):Le (@M9 V0 a b) (M9 a b):=by unfold M9;infer_instance
instance (a):Le (@N6 V0 a) (N6 a):=by unfold N6;infer_instance
instance (a)(b)(c):Le (@P3 V0 a b c) (P3 a b c):=by unfold P3;infer_instance
instance:Le (@T3 V0) (T3):=by unfold T3;infer_instance
instance (a)(b)(c)(d)(e):Le (@Jo V0 a b c d e) (Jo a b c d e):=by unfold Jo;infer_instance
instance (a)(b)(c)(d):Le (@Jp V0 a b c d) (Jp a b c d):=by unfold Jp;infer_instance
instance (a)(b)(c):Le (@Po V0 a b c) (Po a b c):=by unfold Po;infer_instance
instance (a)(b)(c):Le (@Pp V0 a b c) (Pp a b c):=by unfold Pp;infer_instance
instance (a)(b)(c)(d)(e):Le (@J2 V0 a b c d e) (J2 a b c d e):=by unfold J2;infer_instance
instance (a)(b)(c)(d)(e):Le (@I6 V0 a b c d e) (I6 a b c d e):=by unfold I6;infer_instance
instance (a)(b)(c)(d)(e):Le (@Lb V0 a b c d e) (Lb a b c d e):=by unfold Lb;infer_instance
instance (a)(b)(c)(d)(e):Le (@Ht V0 a b c d e) (Ht a b c d e):=by unfold Ht;infer_instance
instance (a)(b)(c)(d):Le (@Mz V0 a b c d) (Mz a b c d):=by unfold Mz;infer_instance
instance (a)(b)(c)(d):Le (@Na V0 a b c d) (Na a b c d):=by unfold Na;infer_instance
instance (a):Le (@Hu V0 a) (Hu a):=by unfold Hu;infer_instance
instance (a)(b)(c):Le (@W5 V0 a b c) (W5 a b c):=by unfold W5;infer_instance
instance (a)(b)(c):Le (@X4 V0 a b c) (X4 a b c):=by unfold X4;infer_instance
instance (a)(b)(c)(d)(e)(f)(g)(h):Le (@Ft V0 a b c d e f g h) (Ft a b c d e f g h):=by unfold Ft;infer_instance
instance (a)(b)(c)(d)(e)(f)(g)(h):Le (@Iz V0 a b c d e f g h) (Iz a b c d e f g h):=by unfold Iz;infer_instance
instance (a)(b)(c)(d)(e)(f)(g)(h)(i):Le (@Fu V0 a b c d e f g h i) (Fu a b c d e f g h i):=by unfold Fu;infer_instance
instance (a)(b)(c)(d)(e)(f)(g)(h):Le (@Kf V0 a b c d e f g h) (Kf a b c d e f g h):=by unfold Kf;infer_instance
instance (a)(b)(c)(d)(e)(f)(g)(h):Le (@Hv V0 a b c d e f g h) (Hv a b c d e f g h):=by unfold Hv;infer_instance
instance (a)(b)(c)(d)(e)(f):Le (@Kg V0 a b c d e f) (Kg a b c d e f):=by unfold Kg;infer_instance
instance (a)(b)(c)(d)(e)(f)(g)(h):Le (@Hy V0 a b c d e f g h) (Hy a b c d e f g h):=by unfold Hy;infer_instance
instance (a)(b)(c)(d)(e)(f):Le (@Hz V0 a b c d e f) (Hz a b c d e f):=by unfold Hz;infer_instance
instance (a)(b)(c)(d)(e):Le (@Kh V0 a b c d e) (Kh a b c d e):=by unfold Kh;infer_instance
instance (a)(b)(c)(d):Le (@Ia V0 a b c d) (Ia a b c d):=by unfold Ia;infer_instance
instance (a)(b)(c)(d):Le (@Ki V0 a b c d) (Ki a b c d):=by unfold Ki;infer_instance
instance (a)(b)(c):Le (@Nc V0 a b c) (Nc a b c):=by unfold Nc;infer_instance
instance law04_awake_le:Le (@Ja V0) (Ja):=by unfold Ja;infer_instance
theorem Hg (n:Int): ∃y,Et n=some (y,y*y==n)∧0≤y∧y≤67108864∧(∀m,0≤m→m<y→m*m<n)∧(y=67108864∨n≤y*y):=by
  have key:=OM (f:=Kd n) (fun x=>0≤x.1∧x.1≤x.2∧x.2≤67108864∧(∀m,0≤m→m<x.1→m*m<n)∧(x.2=67108864∨n≤x.2*x.2)) (fun x=>(x.2 - x.1).toNat)
    (fun y=>0≤y∧y≤67108864∧(∀m,0≤m→m<y→m*m<n)∧(y=67108864∨n≤y*y)) (by
      rintro ⟨lo,hi⟩ ⟨h1,h2,h3,h4,h5⟩
      dsimp only at h1 h2 h3 h4 h5
      unfold Kd
      dsimp only
      by_cases hlt:lo<hi
      ·have e1:D9 (lo+hi)=lo+hi:=I3 (by omega)
       have e2:D9 ((lo+hi).tdiv 2)=(lo+hi) / 2:=by rw [wG (by omega)];exact I3 (by omega)
       have hm:lo≤(lo+hi) / 2∧(lo+hi) / 2<hi:=by omega
       generalize hmid:(lo+hi) / 2=mid at*
       have hmm:mid*mid≤67108864*67108864:=TI (by omega) (by omega)
       have hmm0:=Pj mid
       have e3:D9 (mid*mid)=mid*mid:=I3 (by omega)
       have e4:D9 (mid+1)=mid+1:=I3 (by omega)
       simp only [e1,e2,e3,e4,hlt,decide_true,bH]
       by_cases hc:mid*mid<n
       ·simp only [hc,decide_true,bH]
        refine ⟨_,rfl,⟨by omega,by omega,h3,fun m hm0 hm1=> ?_,h5⟩,by dsimp only;omega⟩
        rcases Int.lt_or_le m mid with q|q
        ·have:=Int.mul_le_mul (show m≤mid by omega) (show m≤mid by omega) hm0 (by omega);omega
        ·have:m=mid:=by dsimp only at hm1;omega
         subst this;exact hc
       ·simp only [hc,decide_false,bI]
        exact ⟨_,rfl,⟨h1,by dsimp only;omega,by dsimp only;omega,h4, .inr (by dsimp only;omega)⟩,by dsimp only;omega⟩
      ·simp only [hlt,decide_false,bI]
       obtain rfl:lo=hi:=by omega
       exact ⟨_,rfl,h1,h3,h4,h5⟩) (0,67108864) ⟨by decide,by decide,by decide,fun m h1 h2=>by dsimp only at h2;omega, .inl rfl⟩
  obtain ⟨y,hy,h1,h2,h3,h4⟩:=key
  refine ⟨y,?_,h1,h2,h3,h4⟩
  have hmm:y*y≤67108864*67108864:=TI (by omega) (by omega)
  have hmm0:=Pj y
  unfold Et
  rw [hy,lB,I3 (by omega)]
/-- The least number whose square is not less. -/
noncomputable def rt (n:Int):Int:=(Hg n).choose
theorem Ym (n:Int):Et n=some (rt n,rt n*rt n==n):=(Hg n).choose_spec.1
theorem DH (n:Int):0≤rt n:=(Hg n).choose_spec.2.1
theorem gV (n m:Int)(h1:0≤m)(h2:m<rt n):m*m<n:=(Hg n).choose_spec.2.2.2.1 m h1 h2
theorem gX (n:Int):rt n=67108864∨n≤rt n*rt n:=(Hg n).choose_spec.2.2.2.2
theorem ZT {l:Int}(h0:0≤l)(h1:l≤67108864):rt (l*l)=l:=by
  rcases Int.lt_trichotomy (rt (l*l)) l with q|q|q
  ·rcases gX (l*l)with h|h
   ·omega
   ·have h2:=DH (l*l)
    have:=Int.mul_lt_mul' (show rt (l*l)≤l by omega) q h2 (by omega);omega
  ·exact q
  ·have:=gV (l*l) l h0 q;omega
theorem FA (n:Int)(h0:0≤n)(h1:n<18014398509481984): ∃r,Il n=some r∧0≤r∧r<134217728∧r*r≤n∧n< (r+1)* (r+1):=by
  have key:=OM (f:=Kb n) (fun x=>0≤x.1∧x.1*x.1≤n∧((∃k:Nat,k≤26∧x.2=2^k∧x.1+2*2^k≤134217728∧n< (x.1+2*2^k)* (x.1+2*2^k))∨(x.2=0∧x.1<134217728∧n< (x.1+1)* (x.1+1)))) (fun x=>x.2.toNat)
    (fun r=>0≤r∧r<134217728∧r*r≤n∧n< (r+1)* (r+1)) (by
      rintro ⟨r,bit⟩ ⟨q1,q2,q3⟩
      dsimp only at q1 q2 q3
      unfold Kb
      dsimp only
      rcases q3 with ⟨k,hk,rfl,q4,q5⟩|⟨rfl,q4,q5⟩
      ·have hp:(0:Int)<2^k:=Int.pow_pos (by decide)
       generalize hb:(2:Int)^k=b at*
       have e1:D9 (r+b)=r+b:=I3 (by omega)
       have hmm:(r+b)* (r+b)≤134217728*134217728:=TI (by omega) (by omega)
       have hmm0:=Pj (r+b)
       have e2:D9 ((r+b)* (r+b))=(r+b)* (r+b):=I3 (by omega)
       have e3:D9 (b.tdiv 2)=b / 2:=by rw [wG (by omega)];exact I3 (by omega)
       have hb0:b>0:=by omega
       simp only [e1,e2,e3,hb0,decide_true,bH]
       have hnext: ∀r',0≤r'→r'*r'≤n→r'+b≤134217728→n< (r'+b)* (r'+b)→(∃j:Nat,j≤26∧b / 2=2^j∧r'+2*2^j≤134217728∧n< (r'+2*2^j)* (r'+2*2^j))∨(b / 2=0∧r'<134217728∧n< (r'+1)* (r'+1)):=by
         intro r' a1 a2 a3 a4
         cases k with
         |zero=>
          have:b=1:=by rw [← hb];rfl
          subst this
          exact .inr ⟨by decide,by omega,a4⟩
         |succ j=>
          have hj:b=2*2^j:=by rw [← hb,Int.pow_succ];omega
          refine .inl ⟨j,by omega,by omega,by omega,by rw [← hj];exact a4⟩
       by_cases hc:(r+b)* (r+b)≤n
       ·simp only [hc,decide_true,bH]
        refine ⟨_,rfl,⟨by dsimp only;omega,hc,hnext (r+b) (by omega) hc (by omega) (by rw [show r+b+b=r+2*b by omega];exact q5)⟩,by dsimp only;omega⟩
       ·simp only [hc,decide_false,bI]
        exact ⟨_,rfl,⟨q1,q2,hnext r q1 q2 (by omega) (by omega)⟩,by dsimp only;omega⟩
      ·simp only [show ¬(0:Int)>0 by decide,decide_false,bI]
       exact ⟨_,rfl,q1,q4,q2,q5⟩) (0,67108864) ⟨by decide,by dsimp only;omega, .inl ⟨26,by decide,by decide,by decide,by dsimp only;omega⟩⟩
  obtain ⟨r,hr,a⟩:=key
  exact ⟨r,by unfold Il;rw [hr];rfl,a⟩
theorem JN {n:Int}(h0:0≤n)(h1:n≤4503599627370496): ∃r,Il n=some r∧0≤r∧r<134217728∧(r*r=n↔rt n*rt n=n)∧(r*r=n→r=rt n):=by
  obtain ⟨r,hr,a1,a2,a3,a4⟩:=FA n h0 (by omega)
  have hr26:r≤67108864:=by
    rcases Int.lt_or_le r 67108865 with q|q
    ·omega
    ·have:=Int.mul_le_mul q q (by decide) (by omega);omega
  refine ⟨r,hr,a1,a2,⟨fun h=> ?_,fun h=> ?_⟩,fun h=> ?_⟩
  ·rw [← h,ZT a1 hr26]
  ·rcases Int.lt_trichotomy r (rt n)with q|q|q
   ·have:=Int.mul_le_mul (show r+1≤rt n by omega) (show r+1≤rt n by omega) (by omega) (DH n);omega
   ·rw [q];exact h
   ·have h2:=DH n
    have:=Int.mul_lt_mul' (show rt n≤r by omega) q h2 (by omega);omega
  ·rw [← h,ZT a1 hr26]
def Ua (p:Spot):Bool:=decide (-16777216≤p.X)&&decide (p.X≤16777216)&&decide (-16777216≤p.Y)&&decide (p.Y≤16777216)
theorem okS_iff {p:Spot}:Ua p=true↔ -16777216≤p.X∧p.X≤16777216∧ -16777216≤p.Y∧p.Y≤16777216:=by simp [Ua,and_assoc]
theorem VK (p:Spot):((decide ((Ps false p.X p.Y)< (-16777216)))||(decide ((Ps true p.X p.Y)>16777216)))= !Ua p:=by
  rw [BE,Xf]
  cases h:Ua p with
  |true=>have:=okS_iff.1 h;simp;omega
  |false=>
   have: ¬(-16777216≤p.X∧p.X≤16777216∧ -16777216≤p.Y∧p.Y≤16777216):=fun q=>by rw [okS_iff.2 q]at h;cases h
   simp;omega
theorem JO (l:List Spot)(hl:l.length≤1000000): ∀(r:List Spot) (i:Nat),l.drop i=r→loop (Es l) (i:Int)=some (if r.all Ua then .inl ()else .inr false):=by
  intro r
  induction r with
  |nil=>
   intro i hi
   have:=O3 hi
   refine D4 ?_
   unfold Es
   simp only [show ¬(i:Int)<l.length by omega,decide_false,bI,List.all_nil,if_true]
  |cons p r ih=>
   intro i hi
   have hlt:=N2 hi
   have hstep:Es l (i:Int)=if Ua p then some (.go ((i+1:Nat):Int))else some (.out (.inr false)):=by
     unfold Es
     simp only [show (i:Int)<l.length by omega,decide_true,bH,Bi hi,lB,VK]
     cases h:Ua p with
     |true=>simp only [bQ,bI,if_true];rw [I3 (by omega)];rfl
     |false=>simp
   cases h:Ua p with
   |true=>
    rw [h,bJ rfl]at hstep
    rw [K0 hstep,ih (i+1) (K7 hi)]
    simp [h]
   |false=>
    rw [h]at hstep
    rw [D4 hstep]
    simp [h]
theorem JP (l:List Spot)(hl:l.length≤1000000):Iv l=some (l.all Ua):=by
  unfold Iv
  have:=JO l hl l 0 (by simp)
  rw [show ((0:Nat):Int)=0 from rfl]at this
  rw [this]
  cases l.all Ua<;>rfl
theorem HV (p:Spot):Nv p=some (Ua p):=by
  unfold Nv Ua;rfl
def Q9 (p q:Spot):CurveVector:=⟨q.X - p.X,q.Y - p.Y⟩
def M6 (v w:CurveVector):Int:=v.x*w.x+v.y*w.y
/-- A vector between valid spots. -/
def WN (v:CurveVector):Prop:= -33554432≤v.x∧v.x≤33554432∧ -33554432≤v.y∧v.y≤33554432
theorem BV {p q:Spot}(hp:Ua p=true)(hq:Ua q=true):WN (Q9 p q):=by
  have:=okS_iff.1 hp;have:=okS_iff.1 hq
  unfold WN Q9;dsimp only;omega
theorem Yn {p q:Spot}(hp:Ua p=true)(hq:Ua q=true):My p q=some (Q9 p q):=by
  have:=okS_iff.1 hp;have:=okS_iff.1 hq
  unfold My Q9
  rw [I3 (by omega),I3 (by omega)]
theorem SA {v w:CurveVector}(hv:WN v)(hw:WN w): -2251799813685248≤M6 v w∧M6 v w≤2251799813685248∧(-1125899906842624≤v.x*w.x∧v.x*w.x≤1125899906842624)∧ -1125899906842624≤v.y*w.y∧v.y*w.y≤1125899906842624:=by
  obtain ⟨a1,a2,a3,a4⟩:=hv
  obtain ⟨b1,b2,b3,b4⟩:=hw
  have h1:=ZD ⟨a1,a2⟩ ⟨b1,b2⟩
  have h2:=ZD ⟨a3,a4⟩ ⟨b3,b4⟩
  unfold M6
  omega
theorem Ub {v w:CurveVector}(hv:WN v)(hw:WN w):Ap v w=some (M6 v w):=by
  have h:=SA hv hw
  unfold Ap
  rw [I3 (n:=v.x*w.x) (by omega),I3 (n:=v.y*w.y) (by omega),I3 (by unfold M6 at h;omega)]
  rfl
theorem SB (v:CurveVector):0≤M6 v v:=by have:=Pj v.x;have:=Pj v.y;unfold M6;omega
def vs (v:CurveVector):Spot:=⟨v.x,v.y⟩
theorem Qp {p q:Spot}(hp:Ua p=true)(hq:Ua q=true):Ik q p=some (vs (Q9 p q)):=by
  have:=okS_iff.1 hp;have:=okS_iff.1 hq
  unfold Ik Q9 vs
  rw [I3 (by omega),I3 (by omega)]
theorem Uc {v w:CurveVector}(hv:WN v)(hw:WN w):Ky (vs v) (vs w)=some (M6 v w):=by
  have h:=SA hv hw
  unfold Ky vs
  dsimp only
  rw [I3 (n:=v.x*w.x) (by omega),I3 (n:=v.y*w.y) (by omega),I3 (by unfold M6 at h;omega)]
  rfl
/-- The error of a chain of points, from a piece on; the piece ahead of it. -/
noncomputable def PG:Option CurveVector→List Spot→Int
  |last,p::q::r=>
   if rt (M6 (Q9 p q) (Q9 p q))*rt (M6 (Q9 p q) (Q9 p q))≠M6 (Q9 p q) (Q9 p q)then 3
   else if rt (M6 (Q9 p q) (Q9 p q))<1000∨rt (M6 (Q9 p q) (Q9 p q))>1048576 then 2
   else match last with
     |some u=>if M6 u (Q9 p q)≤0 then 12 else PG (some (Q9 p q)) (q::r)
     |none=>PG (some (Q9 p q)) (q::r)
  |_,_=>0
theorem BW (last:Option CurveVector)(p q:Spot)(r:List Spot):PG last (p::q::r)=
    if rt (M6 (Q9 p q) (Q9 p q))*rt (M6 (Q9 p q) (Q9 p q))≠M6 (Q9 p q) (Q9 p q)then 3
    else if rt (M6 (Q9 p q) (Q9 p q))<1000∨rt (M6 (Q9 p q) (Q9 p q))>1048576 then 2
    else match last with
      |some u=>if M6 u (Q9 p q)≤0 then 12 else PG (some (Q9 p q)) (q::r)
      |none=>PG (some (Q9 p q)) (q::r):=by
  conv=>lhs;unfold PG
noncomputable def By (l:List Spot):Int:=if l.length<2 then 6 else if l.length>16 then 5 else if l.all Ua then PG none l else 2
theorem HW (c:Curve)(hl:c.Pts.length≤1000000)(hok:c.Pts.all Ua=true): ∀(r:List Spot) (p:Spot) (i:Nat) (last:CurveVector),c.Pts.drop i=p::r→WN last→
    loop (W9 c) ((i:Int),last)=some (if PG (if i=0 then none else some last) (p::r)=0 then .inl ()else .inr (PG (if i=0 then none else some last) (p::r))):=by
  intro r
  induction r with
  |nil=>
   intro p i last hi hlast
   have hlt:=N2 hi
   have:=O3 (K7 hi)
   refine D4 ?_
   unfold W9
   dsimp only
   rw [I3 (n:=(c.Pts.length:Int) - 1) (by omega)]
   simp only [show ¬(i:Int)< (c.Pts.length:Int) - 1 by omega,decide_false,bI,PG,if_true]
  |cons q r ih=>
   intro p i last hi hlast
   have hlt:=N2 hi
   have hi1:=K7 hi
   have hlt1:=N2 hi1
   have hp:Ua p=true:=lY.1 hok p (List.mem_of_mem_drop (i:=i) (by rw [hi];simp))
   have hq:Ua q=true:=lY.1 hok q (List.mem_of_mem_drop (i:=i) (by rw [hi];simp))
   have hv:=BV hp hq
   have hg1:C3 c.Pts ((i:Int)+1)=some q:=by have:=Bi hi1;simpa using this
   have hstep:W9 c ((i:Int),last)=
    if rt (M6 (Q9 p q) (Q9 p q))*rt (M6 (Q9 p q) (Q9 p q))≠M6 (Q9 p q) (Q9 p q)then some (.out (.inr 3))
    else if rt (M6 (Q9 p q) (Q9 p q))<1000∨rt (M6 (Q9 p q) (Q9 p q))>1048576 then some (.out (.inr 2))
    else if i≠0∧M6 last (Q9 p q)≤0 then some (.out (.inr 12))else some (.go (((i+1:Nat):Int),Q9 p q)):=by
     unfold W9
     dsimp only
     rw [I3 (n:=(c.Pts.length:Int) - 1) (by omega),I3 (n:=(i:Int)+1) (by omega)]
     simp only [show (i:Int)< (c.Pts.length:Int) - 1 by omega,decide_true,bH,Bi hi,hg1,lB,Yn hp hq,Ub hv hv,Ym]
     by_cases h1:rt (M6 (Q9 p q) (Q9 p q))*rt (M6 (Q9 p q) (Q9 p q))=M6 (Q9 p q) (Q9 p q)
     ·simp only [h1,beq_self_eq_true,bQ,bI,ne_eq,not_true_eq_false,if_false]
      by_cases h2:rt (M6 (Q9 p q) (Q9 p q))<1000∨rt (M6 (Q9 p q) (Q9 p q))>1048576
      ·rw [bJ h2]
       have:(decide (rt (M6 (Q9 p q) (Q9 p q))<1000)||decide (rt (M6 (Q9 p q) (Q9 p q))>1048576))=true:=by simpa using h2
       rw [this];rfl
      ·rw [bK h2]
       have:(decide (rt (M6 (Q9 p q) (Q9 p q))<1000)||decide (rt (M6 (Q9 p q) (Q9 p q))>1048576))=false:=by simpa using h2
       rw [this]
       simp only [bI]
       by_cases h3:i=0
       ·subst h3
        simp only [Int.natCast_zero,gt_iff_lt,Int.lt_irrefl,decide_false,bI,bN,lB,not_true_eq_false,false_and,if_false]
        rfl
       ·have h4:(i:Int)>0:=by omega
        simp only [h4,decide_true,bH,Ub hlast hv,lB,bM,h3,not_false_eq_true,true_and]
        by_cases h5:M6 last (Q9 p q)≤0<;>simp [h5]
     ·have:(rt (M6 (Q9 p q) (Q9 p q))*rt (M6 (Q9 p q) (Q9 p q))==M6 (Q9 p q) (Q9 p q))=false:=by simpa using h1
      simp only [this,bR,bH,ne_eq,h1,not_false_eq_true,if_true]
   rw [BW]
   by_cases h1:rt (M6 (Q9 p q) (Q9 p q))*rt (M6 (Q9 p q) (Q9 p q))≠M6 (Q9 p q) (Q9 p q)
   ·rw [bJ h1]at hstep
    rw [D4 hstep,bJ h1];rfl
   ·rw [bK h1]at hstep ⊢
    by_cases h2:rt (M6 (Q9 p q) (Q9 p q))<1000∨rt (M6 (Q9 p q) (Q9 p q))>1048576
    ·rw [bJ h2]at hstep
     rw [D4 hstep,bJ h2];rfl
    ·rw [bK h2]at hstep ⊢
     by_cases h3:i=0
     ·subst h3
      rw [bK (by simp)]at hstep
      rw [K0 hstep,ih q (0+1) (Q9 p q) hi1 hv]
      simp
     ·by_cases h5:M6 last (Q9 p q)≤0
      ·rw [bJ ⟨h3,h5⟩]at hstep
       rw [D4 hstep]
       simp [h3,h5]
      ·rw [bK (fun h=>h5 h.2)]at hstep
       rw [K0 hstep,ih q (i+1) (Q9 p q) hi1 hv]
       simp [h3,h5]
theorem Wq (c:Curve)(hl:c.Pts.length≤1000000):Eb c=some (By c.Pts):=by
  unfold Eb By
  by_cases h1:c.Pts.length<2
  ·rw [bJ h1,show decide ((c.Pts.length:Int)<2)=true by simp;omega];rfl
  ·rw [bK h1,show decide ((c.Pts.length:Int)<2)=false by simp;omega]
   simp only [bI]
   by_cases h2:c.Pts.length>16
   ·rw [bJ h2,show decide ((c.Pts.length:Int)>16)=true by simp;omega];rfl
   ·rw [bK h2,show decide ((c.Pts.length:Int)>16)=false by simp;omega]
    simp only [bI,JP c.Pts hl,lB]
    cases h3:c.Pts.all Ua with
    |false=>rfl
    |true=>
     simp only [bQ,bI,if_true]
     cases hp:c.Pts with
     |nil=>rw [hp]at h1;simp at h1
     |cons p r=>
      have:=HW c hl h3 r p 0 ⟨0,0⟩ (by rw [hp];rfl) ⟨by decide,by decide,by decide,by decide⟩
      rw [bJ rfl,show ((0:Nat):Int)=0 from rfl]at this
      rw [this]
      by_cases h4:PG none (p::r)=0
      ·rw [bJ h4,h4];rfl
      ·rw [bK h4];rfl
theorem VL (v w:CurveVector):M6 v w=M6 w v:=by unfold M6;rw [Int.mul_comm v.x,Int.mul_comm v.y]
theorem FB (c:Curve)(hl:c.Pts.length≤1000000): ∀(r:List Spot) (i:Nat),c.Pts.drop i=r→loop (Cx c) (i:Int)=some (if r.all Ua then .inl ()else .inr 2):=by
  intro r
  induction r with
  |nil=>
   intro i hi
   have:=O3 hi
   refine D4 ?_
   unfold Cx
   simp only [show ¬(i:Int)<c.Pts.length by omega,decide_false,bI,List.all_nil,if_true]
  |cons p r ih=>
   intro i hi
   have hlt:=N2 hi
   have hstep:Cx c (i:Int)=if Ua p then some (.go ((i+1:Nat):Int))else some (.out (.inr 2)):=by
     unfold Cx
     simp only [show (i:Int)<c.Pts.length by omega,decide_true,bH,Bi hi,lB,HV]
     cases h:Ua p with
     |true=>simp only [bQ,bI,if_true];rw [I3 (by omega)];rfl
     |false=>simp
   cases h:Ua p with
   |true=>
    rw [h,bJ rfl]at hstep
    rw [K0 hstep,ih (i+1) (K7 hi)]
    simp [h]
   |false=>
    rw [h]at hstep
    rw [D4 hstep]
    simp [h]
theorem ZU {v:CurveVector}(hv:WN v): ∃l,Il (M6 v v)=some l∧(D9 (l*l) !=M6 v v)= !(rt (M6 v v)*rt (M6 v v)==M6 v v)∧(rt (M6 v v)*rt (M6 v v)=M6 v v→l=rt (M6 v v)):=by
  have hb:=SA hv hv
  obtain ⟨l,h1,h2,h3,h4,h5⟩:=JN (SB v) (by omega)
  have hmm:l*l≤134217728*134217728:=TI (by omega) (by omega)
  have hmm0:=Pj l
  refine ⟨l,h1,?_,fun h=>h5 (h4.2 h)⟩
  rw [I3 (by omega)]
  by_cases h:l*l=M6 v v
  ·simp [h,h4.1 h]
  ·have h': ¬rt (M6 v v)*rt (M6 v v)=M6 v v:=fun q=>h (h4.2 q)
   have e1:(l*l !=M6 v v)=true:=bne_iff_ne.2 h
   have e2:(rt (M6 v v)*rt (M6 v v)==M6 v v)=false:=beq_eq_false_iff_ne.2 h'
   rw [e1,e2];rfl
theorem FC (c:Curve)(hl:c.Pts.length≤1000000)(hok:c.Pts.all Ua=true): ∀(r:List Spot) (p:Spot) (i:Nat) (last:Option CurveVector),c.Pts.drop i=p::r→
    (i=0∧last=none∨∃j a,i=j+1∧c.Pts.drop j=a::p::r∧last=some (Q9 a p))→
    loop (Cw c) (i:Int)=some (if PG last (p::r)=0 then .inl ()else .inr (PG last (p::r))):=by
  intro r
  induction r with
  |nil=>
   intro p i last hi hlast
   have hlt:=N2 hi
   have:=O3 (K7 hi)
   refine D4 ?_
   unfold Cw
   rw [I3 (n:=(i:Int)+1) (by omega)]
   simp only [show ¬(i:Int)+1< (c.Pts.length:Int) by omega,decide_false,bI,PG,if_true]
  |cons q r ih=>
   intro p i last hi hlast
   have hlt:=N2 hi
   have hi1:=K7 hi
   have hlt1:=N2 hi1
   have hp:Ua p=true:=lY.1 hok p (List.mem_of_mem_drop (i:=i) (by rw [hi];simp))
   have hq:Ua q=true:=lY.1 hok q (List.mem_of_mem_drop (i:=i) (by rw [hi];simp))
   have hv:=BV hp hq
   have hg1:C3 c.Pts ((i:Int)+1)=some q:=by have:=Bi hi1;simpa using this
   obtain ⟨l,hl1,hl2,hl3⟩:=ZU hv
   have hstep:Cw c (i:Int)=
    if rt (M6 (Q9 p q) (Q9 p q))*rt (M6 (Q9 p q) (Q9 p q))≠M6 (Q9 p q) (Q9 p q)then some (.out (.inr 3))
    else if rt (M6 (Q9 p q) (Q9 p q))<1000∨rt (M6 (Q9 p q) (Q9 p q))>1048576 then some (.out (.inr 2))
    else match last with
      |some u=>if M6 u (Q9 p q)≤0 then some (.out (.inr 12))else some (.go ((i+1:Nat):Int))
      |none=>some (.go ((i+1:Nat):Int)):=by
     unfold Cw
     rw [I3 (n:=(i:Int)+1) (by omega)]
     simp only [show (i:Int)+1< (c.Pts.length:Int) by omega,decide_true,bH,Bi hi,hg1,lB,Qp hp hq,Uc hv hv,hl1,hl2]
     by_cases h1:rt (M6 (Q9 p q) (Q9 p q))*rt (M6 (Q9 p q) (Q9 p q))=M6 (Q9 p q) (Q9 p q)
     ·simp only [h1,beq_self_eq_true,bQ,bI,ne_eq,not_true_eq_false,if_false,hl3 h1]
      by_cases h2:rt (M6 (Q9 p q) (Q9 p q))<1000∨rt (M6 (Q9 p q) (Q9 p q))>1048576
      ·rw [bJ h2]
       have:(decide (rt (M6 (Q9 p q) (Q9 p q))<1000)||decide (rt (M6 (Q9 p q) (Q9 p q))>1048576))=true:=by simpa using h2
       rw [this];rfl
      ·rw [bK h2]
       have:(decide (rt (M6 (Q9 p q) (Q9 p q))<1000)||decide (rt (M6 (Q9 p q) (Q9 p q))>1048576))=false:=by simpa using h2
       rw [this]
       simp only [bI]
       rcases hlast with ⟨rfl,rfl⟩|⟨j,a,rfl,hj,rfl⟩
       ·simp only [Int.natCast_zero,gt_iff_lt,Int.lt_irrefl,decide_false,bI,bN,lB]
        rfl
       ·have h4:(((j+1:Nat):Int))>0:=by omega
        have ha:Ua a=true:=lY.1 hok a (List.mem_of_mem_drop (i:=j) (by rw [hj];simp))
        have hva:=BV ha hp
        have hgj:C3 c.Pts (D9 (((j+1:Nat):Int) - 1))=some a:=by
          rw [I3 (by omega),show (((j+1:Nat):Int) - 1)=(j:Int) by omega]
          exact Bi hj
        simp only [h4,decide_true,bH,hgj,lB,Qp ha hp,Uc hv hva,bM]
        rw [VL (Q9 p q) (Q9 a p)]
        by_cases h5:M6 (Q9 a p) (Q9 p q)≤0
        ·simp [h5]
        ·simp [h5]
     ·have:(rt (M6 (Q9 p q) (Q9 p q))*rt (M6 (Q9 p q) (Q9 p q))==M6 (Q9 p q) (Q9 p q))=false:=by simpa using h1
      simp only [this,bR,bH,ne_eq,h1,not_false_eq_true,if_true]
   rw [BW]
   have hrec:=ih q (i+1) (some (Q9 p q)) hi1 (.inr ⟨i,p,rfl,hi,rfl⟩)
   by_cases h1:rt (M6 (Q9 p q) (Q9 p q))*rt (M6 (Q9 p q) (Q9 p q))≠M6 (Q9 p q) (Q9 p q)
   ·rw [bJ h1]at hstep
    rw [D4 hstep,bJ h1];rfl
   ·rw [bK h1]at hstep ⊢
    by_cases h2:rt (M6 (Q9 p q) (Q9 p q))<1000∨rt (M6 (Q9 p q) (Q9 p q))>1048576
    ·rw [bJ h2]at hstep
     rw [D4 hstep,bJ h2];rfl
    ·rw [bK h2]at hstep ⊢
     cases last with
     |none=>rw [K0 hstep,hrec]
     |some u=>
      dsimp only at hstep ⊢
      by_cases h5:M6 u (Q9 p q)≤0
      ·rw [bJ h5]at hstep
       rw [D4 hstep];simp [h5]
      ·rw [bK h5]at hstep
       rw [K0 hstep,hrec];simp [h5]
theorem Wr (c:Curve)(hl:c.Pts.length≤1000000):Kz c=some (By c.Pts):=by
  unfold Kz By
  by_cases h1:c.Pts.length<2
  ·rw [bJ h1,show decide ((c.Pts.length:Int)<2)=true by simp;omega];rfl
  ·rw [bK h1,show decide ((c.Pts.length:Int)<2)=false by simp;omega]
   simp only [bI]
   by_cases h2:c.Pts.length>16
   ·rw [bJ h2,show decide ((c.Pts.length:Int)>16)=true by simp;omega];rfl
   ·rw [bK h2,show decide ((c.Pts.length:Int)>16)=false by simp;omega]
    have hg:=FB c hl c.Pts 0 (by simp)
    rw [show ((0:Nat):Int)=0 from rfl]at hg
    simp only [bI,hg]
    cases h3:c.Pts.all Ua with
    |false=>rfl
    |true=>
     simp only [if_true,thenS]
     cases hp:c.Pts with
     |nil=>rw [hp]at h1;simp at h1
     |cons p r=>
      have:=FC c hl h3 r p 0 none (by rw [hp];rfl) (.inl ⟨rfl,rfl⟩)
      rw [show ((0:Nat):Int)=0 from rfl]at this
      rw [this]
      by_cases h4:PG none (p::r)=0
      ·rw [bJ h4,h4]
      ·rw [bK h4]
/-- What a valid chain is. -/
inductive Good:Option CurveVector→List Spot→Prop
  |one (last:Option CurveVector) (p:Spot):Good last [p]
  |cons (last:Option CurveVector) (p q:Spot) (r:List Spot) (h1:rt (M6 (Q9 p q) (Q9 p q))*rt (M6 (Q9 p q) (Q9 p q))=M6 (Q9 p q) (Q9 p q)) (h2:1000≤rt (M6 (Q9 p q) (Q9 p q))) (h3:rt (M6 (Q9 p q) (Q9 p q))≤1048576)
     (h4: ∀u,last=some u→0<M6 u (Q9 p q)) (h:Good (some (Q9 p q)) (q::r)):Good last (p::q::r)
theorem PH: ∀(r:List Spot) (p:Spot) (last:Option CurveVector),PG last (p::r)=0→Good last (p::r):=by
  intro r
  induction r with
  |nil=>intro p last _;exact .one _ _
  |cons q r ih=>
   intro p last h
   rw [BW]at h
   split at h
   ·cases h
   ·rename_i h1
    split at h
    ·cases h
    ·rename_i h2
     have h1:rt (M6 (Q9 p q) (Q9 p q))*rt (M6 (Q9 p q) (Q9 p q))=M6 (Q9 p q) (Q9 p q):=by simpa using h1
     cases last with
     |none=>exact .cons _ _ _ _ h1 (by omega) (by omega) (fun u hu=>by cases hu) (ih q _ h)
     |some u=>
      dsimp only at h
      split at h
      ·cases h
      ·exact .cons _ _ _ _ h1 (by omega) (by omega) (fun u' hu=>by cases hu;omega) (ih q _ h)
theorem PI {last:Option CurveVector}{l:List Spot}(h:Good last l):PG last l=0:=by
  induction h with
  |one=>rfl
  |cons last p q r h1 h2 h3 h4 h ih=>
   rw [BW,bK (by simpa using h1),bK (by omega)]
   cases last with
   |none=>exact ih
   |some u=>dsimp only;rw [bK (by have:=h4 u rfl;omega)];exact ih
structure Valid (l:List Spot):Prop where
  two:2≤l.length
  most:l.length≤16
  ok:l.all Ua=true
  good:Good none l
theorem checkM_zero {l:List Spot}:By l=0↔Valid l:=by
  unfold By
  constructor
  ·intro h
   split at h
   ·cases h
   ·rename_i h1
    split at h
    ·cases h
    ·rename_i h2
     split at h
     ·rename_i h3
      cases l with
      |nil=>simp at h1
      |cons p r=>exact ⟨by omega,by omega,h3,PH r p none h⟩
     ·cases h
  ·rintro ⟨h1,h2,h3,h4⟩
   rw [bK (by omega),bK (by omega),bJ h3]
   exact PI h4
/-- The pieces of a chain: the number, the piece. -/
noncomputable def Ud:Nat→Int→List Spot→List (Int×CurvePiece)
  |i,s,p::q::r=>((i:Int),⟨p,Q9 p q,rt (M6 (Q9 p q) (Q9 p q)),s⟩)::Ud (i+1) (D9 (s+rt (M6 (Q9 p q) (Q9 p q)))) (q::r)
  |_,_,_=> []
theorem BX (i:Nat)(s:Int)(p q:Spot)(r:List Spot):Ud i s (p::q::r)=((i:Int),⟨p,Q9 p q,rt (M6 (Q9 p q) (Q9 p q)),s⟩)::Ud (i+1) (D9 (s+rt (M6 (Q9 p q) (Q9 p q)))) (q::r):=by conv=>lhs;unfold Ud
theorem PJ (pts:List Spot)(hok:pts.all Ua=true): ∀(r:List Spot) (p:Spot) (i:Nat) (s:Int),pts.drop i=p::r→Hf pts r.length i s=some (Ud i s (p::r)):=by
  intro r
  induction r with
  |nil=>intro p i s _;rfl
  |cons q r ih=>
   intro p i s hi
   have hi1:=K7 hi
   have hp:Ua p=true:=lY.1 hok p (List.mem_of_mem_drop (i:=i) (by rw [hi];simp))
   have hq:Ua q=true:=lY.1 hok q (List.mem_of_mem_drop (i:=i) (by rw [hi];simp))
   have hv:=BV hp hq
   have h0:pts[i]? =some p:=by have:=congrArg (fun z=>z[0]?) hi;simpa using this
   have h1:pts[i+1]? =some q:=by have:=congrArg (fun z=>z[0]?) hi1;simpa using this
   rw [lL,Hf,h0,h1]
   simp only [lB,Yn hp hq,Ub hv hv,Ym]
   rw [ih q (i+1) _ hi1,BX]
   rfl
theorem SC {pts:List Spot}(h:Valid pts):Ro pts=some (Ud 0 0 pts):=by
  unfold Ro
  have:=h.most
  rw [bJ (by omega)]
  cases hp:pts with
  |nil=>have:=h.two;rw [hp]at this;simp at this
  |cons p r=>exact PJ (p::r) (by rw [← hp];exact h.ok) r p 0 0 rfl
/-- The lengths. -/
noncomputable def Xt:List Spot→List Int
  |p::q::r=>rt (M6 (Q9 p q) (Q9 p q))::Xt (q::r)
  |_=> []
theorem Sy (p q:Spot)(r:List Spot):Xt (p::q::r)=rt (M6 (Q9 p q) (Q9 p q))::Xt (q::r):=by conv=>lhs;unfold Xt
theorem Rr: ∀(r:List Spot) (p:Spot),(Xt (p::r)).length=r.length
  | [],_=>rfl
  |q::r,p=>by rw [Sy,lL,Rr r q,lL]
theorem BY: ∀(r:List Spot) (p:Spot) (i:Nat) (s:Int),(Ud i s (p::r)).map (·.2.l)=Xt (p::r)
  | [],_,_,_=>rfl
  |q::r,p,i,s=>by rw [BX,Sy,lR,BY r q]
theorem PK: ∀(L:List (Int×CurvePiece)) (out:List Int),out.length+L.length≤1000000000→loopL Dq (fun x=>x) L out=some (out++L.map (·.2.l)):=by
  intro L
  induction L with
  |nil=>intro out _;simp [loopL]
  |cons a L ih=>
   intro out h
   simp only [lL]at h
   have:Dq out a=some (.go (out++ [a.2.l])):=by
     unfold Dq
     rw [Je (by simp;omega)];rfl
   rw [loopL,this]
   dsimp only
   rw [ih _ (by simp;omega)]
   simp
theorem FD (c:Curve)(hl:c.Pts.length≤1000000):Ec c=some (if By c.Pts=0 then Xt c.Pts else []):=by
  unfold Ec
  rw [Wq c hl,lB]
  by_cases h:By c.Pts=0
  ·rw [bJ h,h]
   have hv:=checkM_zero.1 h
   have:=hv.most
   simp only [bne_self_eq_false,bI,SC hv,lB]
   cases hp:c.Pts with
   |nil=>have:=hv.two;rw [hp]at this;simp at this
   |cons p r=>
    have e:=BY r p 0 0
    rw [PK _ _ (by
     have:=congrArg List.length e
     rw [lS,Rr]at this
     rw [this];rw [hp]at hl;simp at hl ⊢;omega)]
    rw [e];rfl
  ·rw [bK h,show (By c.Pts !=0)=true from bne_iff_ne.2 h];rfl
theorem BZ (c:Curve)(hl:c.Pts.length≤1000000)(hok:c.Pts.all Ua=true): ∀(r:List Spot) (p:Spot) (i:Nat) (out:List Int) (last:Option CurveVector),c.Pts.drop i=p::r→Good last (p::r)→out.length+r.length≤1000000→
    loop (Bq c) (out,(i:Int))=some (out++Xt (p::r)):=by
  intro r
  induction r with
  |nil=>
   intro p i out last hi _ _
   have hlt:=N2 hi
   have:=O3 (K7 hi)
   refine D4 ?_
   unfold Bq
   dsimp only
   rw [I3 (n:=(i:Int)+1) (by omega)]
   simp only [show ¬(i:Int)+1< (c.Pts.length:Int) by omega,decide_false,bI,Xt,lP]
  |cons q r ih=>
   intro p i out last hi hg ho
   have hlt:=N2 hi
   have hi1:=K7 hi
   have hlt1:=N2 hi1
   have hp:Ua p=true:=lY.1 hok p (List.mem_of_mem_drop (i:=i) (by rw [hi];simp))
   have hq:Ua q=true:=lY.1 hok q (List.mem_of_mem_drop (i:=i) (by rw [hi];simp))
   have hv:=BV hp hq
   have hg1:C3 c.Pts ((i:Int)+1)=some q:=by have:=Bi hi1;simpa using this
   obtain ⟨l,hl1,hl2,hl3⟩:=ZU hv
   cases hg with
   |cons _ _ _ _ h1 h2 h3 h4 hg=>
    have hll:=hl3 h1
    subst hll
    simp only [lL]at ho
    have hstep:Bq c (out,(i:Int))=some (.go (out++ [rt (M6 (Q9 p q) (Q9 p q))],((i+1:Nat):Int))):=by
      unfold Bq
      dsimp only
      rw [I3 (n:=(i:Int)+1) (by omega)]
      simp only [show (i:Int)+1< (c.Pts.length:Int) by omega,decide_true,bH,Bi hi,hg1,lB,Qp hp hq,Uc hv hv,hl1]
      rw [Je (by simp;omega)]
      rfl
    rw [K0 hstep,ih q (i+1) _ _ hi1 hg (by simp;omega),Sy]
    simp
theorem FE (c:Curve)(hl:c.Pts.length≤1000000):Lr c=some (if By c.Pts=0 then Xt c.Pts else []):=by
  unfold Lr
  rw [Wr c hl,lB]
  by_cases h:By c.Pts=0
  ·rw [bJ h,h]
   have hv:=checkM_zero.1 h
   simp only [bne_self_eq_false,bI]
   cases hp:c.Pts with
   |nil=>have:=hv.two;rw [hp]at this;simp at this
   |cons p r=>
    have:=BZ c hl hv.ok r p 0 [] none (by rw [hp];rfl) (by rw [← hp];exact hv.good) (by rw [hp]at hl;simp at hl ⊢;omega)
    rw [show ((0:Nat):Int)=0 from rfl]at this
    rw [this];rfl
  ·rw [bK h,show (By c.Pts !=0)=true from bne_iff_ne.2 h];rfl
/-- A sum, as the programs take it. -/
def Zq:Int→List Int→Int
  |s,[]=>s
  |s,a::l=>Zq (D9 (s+a)) l
theorem CA (l:List Int)(hl:l.length≤1000000): ∀(r:List Int) (i:Nat) (s:Int),l.drop i=r→loop (Z9 l) (s,(i:Int))=some (Zq s r):=by
  intro r
  induction r with
  |nil=>
   intro i s hi
   have:=O3 hi
   refine D4 ?_
   unfold Z9
   simp only [show ¬(i:Int)<l.length by omega,decide_false,bI,Zq]
  |cons a r ih=>
   intro i s hi
   have hlt:=N2 hi
   have hstep:Z9 l (s,(i:Int))=some (.go (D9 (s+a),((i+1:Nat):Int))):=by
     unfold Z9
     simp only [show (i:Int)<l.length by omega,decide_true,bH,Bi hi,lB]
     rw [I3 (n:=(i:Int)+1) (by omega)];rfl
   rw [K0 hstep,ih (i+1) _ (K7 hi),Zq]
theorem CB (l:List Int)(hl:l.length≤1000000): ∀(r:List Int) (i:Nat) (s:Int),l.drop i=r→loop (Z5 l) (s,(i:Int))=some (Zq s r):=by
  intro r
  induction r with
  |nil=>
   intro i s hi
   have:=O3 hi
   refine D4 ?_
   unfold Z5
   simp only [show ¬(i:Int)<l.length by omega,decide_false,bI,Zq]
  |cons a r ih=>
   intro i s hi
   have hlt:=N2 hi
   have hstep:Z5 l (s,(i:Int))=some (.go (D9 (s+a),((i+1:Nat):Int))):=by
     unfold Z5
     simp only [show (i:Int)<l.length by omega,decide_true,bH,Bi hi,lB]
     rw [I3 (n:=(i:Int)+1) (by omega)];rfl
   rw [K0 hstep,ih (i+1) _ (K7 hi),Zq]
noncomputable def Kp (c:Curve):List Int:=if By c.Pts=0 then Xt c.Pts else []
theorem eD: ∀l:List Spot,(Xt l).length≤l.length
  | []=>by simp [Xt]
  |p::r=>by rw [Rr];simp
theorem HX (c:Curve):(Kp c).length≤c.Pts.length:=by
  unfold Kp
  split
  ·exact eD _
  ·simp
theorem Ut (c:Curve)(hl:c.Pts.length≤1000000):Cf c=some (Zq 0 (Kp c)):=by
  unfold Cf
  rw [FD c hl,lB]
  have:=HX c
  have h:=CA (Kp c) (by omega) (Kp c) 0 0 (by simp)
  rw [show ((0:Nat):Int)=0 from rfl]at h
  show (loop (Z9 (Kp c)) (0,0)).bind _=_
  rw [h];rfl
theorem FF (c:Curve)(hl:c.Pts.length≤1000000):Dw c=some (Zq 0 (Kp c)):=by
  unfold Dw
  rw [FE c hl,lB]
  have:=HX c
  have h:=CB (Kp c) (by omega) (Kp c) 0 0 (by simp)
  rw [show ((0:Nat):Int)=0 from rfl]at h
  show (loop (Z5 (Kp c)) (0,0)).bind _=_
  rw [h];rfl
/-- A quarter turn, so many times. -/
def VM:Nat→CurveVector→CurveVector
  |0,v=>v
  |n+1,v=>VM n ⟨-v.y,v.x⟩
theorem MU: ∀(n:Nat) (v w:CurveVector),M6 (VM n v) (VM n w)=M6 v w
  |0,_,_=>rfl
  |n+1,v,w=>by rw [VM,VM,MU n];unfold M6;grind
/-- A piece's vector, made of numbers: in one quadrant. -/
def gY (n:Nat)(v:CurveVector):Prop:= ∃x y L:Int,v=VM n ⟨x,y⟩∧0<x∧0≤y∧x*x+y*y=L*L∧1000≤L∧L≤3029∧x≤L∧y≤L
inductive Ch (Q:CurveVector→Prop):List Spot→Prop
  |one (p:Spot):Ch Q [p]
  |cons (p q:Spot) (r:List Spot) (h:Q (Q9 p q)) (hr:Ch Q (q::r)):Ch Q (p::q::r)
theorem HY {n:Nat}: ∀(r:List Spot) (p:Spot) (last:Option CurveVector),Ch (gY n) (p::r)→(∀u,last=some u→gY n u)→Good last (p::r)
  | [],p,last,_,_=> .one _ _
  |q::r,p,last,hc,hl=>by
   cases hc with
   |cons _ _ _ h1 h2=>
    have hq:=h1
    obtain ⟨x,y,L,hv,hx,hy,hsq,hL1,hL2,hxL,hyL⟩:=h1
    have hd:M6 (Q9 p q) (Q9 p q)=L*L:=by rw [hv,MU];unfold M6;exact hsq
    have hrt:rt (M6 (Q9 p q) (Q9 p q))=L:=by rw [hd];exact ZT (by omega) (by omega)
    refine .cons _ _ _ _ (by rw [hrt,hd]) (by rw [hrt];exact hL1) (by rw [hrt];omega) (fun u hu=> ?_) (HY r q _ h2 (fun u hu=>by cases hu;exact hq))
    obtain ⟨x',y',L',hv',hx',hy',_⟩:=hl u hu
    rw [hv,hv',MU]
    unfold M6
    have:=Int.mul_pos hx' hx
    have:=wF hy' hy
    dsimp only
    omega
/-- What the curves made of numbers are like. -/
structure Made (l:List Spot):Prop where
  two:2≤l.length
  six:l.length≤6
  ch: ∃n,Ch (gY n) l
  bd: ∀p∈l, -50000≤p.X∧p.X≤50000∧ -50000≤p.Y∧p.Y≤50000
theorem Made.valid {l:List Spot}(h:Made l):Valid l:=by
  obtain ⟨n,hc⟩:=h.ch
  have:=h.two;have:=h.six
  refine ⟨h.two,by omega,lY.2 fun p hp=>okS_iff.2 (by have:=h.bd p hp;omega),?_⟩
  match l,h,hc with
  |p::r,_,hc=>exact HY r p none hc (fun u hu=>by cases hu)
  | [],h,_=>exact absurd h.two (by simp)
/-! ### Loops that look for the first error -/
def J5 {α β:Type}(g:Nat→α→Option β):Nat→List α→Option β
  |_,[]=>none
  |i,a::r=>match g i a with
   |some e=>some e
   |none=>J5 g (i+1) r
def HZ {β:Type}:Option β→Sum Unit β
  |some e=> .inr e
  |none=> .inl ()
theorem Aq {α β:Type}(l:List α)(F:Int→Option (Stp Int (Sum Unit β)))(g:Nat→α→Option β)(hF: ∀(i:Nat) a,l[i]? =some a→F (i:Int)=some (match g i a with|some e=> .out (.inr e)|none=> .go ((i+1:Nat):Int)))(h0:F (l.length:Int)=some (.out (.inl ()))):
    loop F 0=some (HZ (J5 g 0 l)):=by
  have key: ∀(r:List α) (i:Nat),l.drop i=r→i≤l.length→loop F (i:Int)=some (HZ (J5 g i r)):=by
    intro r
    induction r with
    |nil=>
     intro i hi hil
     have:i=l.length:=by have:=List.drop_eq_nil_iff.1 hi;omega
     subst this
     exact D4 h0
    |cons a r ih=>
     intro i hi hil
     have hlt:i<l.length:=by
       rcases Nat.lt_or_ge i l.length with q|q
       ·exact q
       ·rw [List.drop_eq_nil_of_le q]at hi;cases hi
     have ha:l[i]? =some a:=by have:=congrArg (fun z=>z[0]?) hi;simpa using this
     have hr:l.drop (i+1)=r:=by have:=congrArg (fun z=>z.drop 1) hi;simpa using this
     have hs:=hF i a ha
     unfold J5
     cases hg:g i a with
     |some e=>rw [hg]at hs;exact D4 hs
     |none=>rw [hg]at hs;rw [K0 hs];exact ih (i+1) hr (by omega)
  have:=key l 0 rfl (by omega)
  exact this
theorem firstE_none {α β:Type}{g:Nat→α→Option β}: ∀{l:List α} {i:Nat},J5 g i l=none↔∀(j:Nat) a,l[j]? =some a→g (i+j) a=none
  | [],i=>by simp [J5]
  |a::r,i=>by
   unfold J5
   cases h:g i a with
   |some e=>
    constructor
    ·intro h';cases h'
    ·intro h';have:=h' 0 a rfl;rw [Nat.add_zero,h]at this;cases this
   |none=>
    dsimp only
    rw [firstE_none (l:=r)]
    constructor
    ·intro h' j b hj
     cases j with
     |zero=>cases hj;exact h
     |succ j=>have:=h' j b hj;rwa [show i+1+j=i+ (j+1) by omega]at this
    ·intro h' j b hj
     have:=h' (j+1) b hj
     rwa [show i+ (j+1)=i+1+j by omega]at this
/-! ### Numbers -/
def Te (n a b:Int):Bool:=decide (a≤n)&&decide (n≤b)
theorem Pq (n a b:Int):Ce n a b=some (Te n a b):=rfl
theorem Qq (n a b:Int):Cc n a b=some (Te n a b):=rfl
def Fv (kind:Int):Int×Int×Int:=if kind=1 then (2000,30,90)else if kind=2 then (1000,20,60)else if kind=3 then (300,100,300)else (0,0,0)
theorem DI (k:Int):Ea k=some (Fv k):=by
  unfold Ea Fv
  by_cases h:k<0∨k≥4
  ·rw [show ((decide (k<0))||(decide (k≥4)))=true by simpa using h,bH,bK (by omega),bK (by omega),bK (by omega)]
  ·rw [show ((decide (k<0))||(decide (k≥4)))=false by rw [bT];simpa using h,bI]
   obtain ⟨h1,h2⟩:=not_or.1 h
   rcases (show k=0∨k=1∨k=2∨k=3 by omega)with rfl|rfl|rfl|rfl<;>rfl
theorem Ue (k:Int):Du k=some (Fv k):=by
  unfold Du Fv
  by_cases h1:k=1
  ·subst h1;rfl
  ·by_cases h2:k=2
   ·subst h2;rfl
   ·by_cases h3:k=3
    ·subst h3;rfl
    ·rw [bK h1,bK h2,bK h3]
     rw [show (k==1)=false by simpa using h1,show (k==2)=false by simpa using h2,show (k==3)=false by simpa using h3];rfl
theorem NE {n:Int}(h: -9223372036854775808≤n∧n≤9223372036854775807):D9 n=n:=Go.IntWalk.i64_in n h
theorem D5 {α:Type}{l:List α}{i:Nat}{a:α}(h:l[i]? =some a):C3 l (i:Int)=some a:=by
  unfold C3;rw [bJ (by omega),bY];exact h
theorem J7 {α:Type}{l:List α}{i:Nat}{a:α}(h:l[i]? =some a):i<l.length:=(lI.1 h).1
theorem FO {α:Type}(c:Bool)(a b:α):cond c (some a) (some b)=some (cond c a b):=by cases c<;>rfl
def Bo (high:Int):Int→List Int→Bool
  |_,[]=>true
  |low,n::r=>decide (low≤n)&&decide (n<high)&&Bo high (n+1) r
theorem DJ (l:List Int)(low high:Int)(hl:l.length≤1000000)(hh:high≤1000000000)(h0:0≤low):Av l low high=some (Bo high low l):=by
  have key: ∀(r:List Int) (i:Nat) (lo:Int),0≤lo→l.drop i=r→i≤l.length→loop (Bs l high) (lo,(i:Int))=some (if Bo high lo r then .inl ()else .inr false):=by
    intro r
    induction r with
    |nil=>
     intro i lo _ hi hil
     have:=O3 hi
     refine D4 ?_
     unfold Bs
     dsimp only
     rw [show decide ((i:Int)< (l.length:Int))=false from bE (by omega)];rfl
    |cons n r ih=>
     intro i lo hlo hi hil
     have hlt:=N2 hi
     have hs:Bs l high (lo,(i:Int))=some (if decide (lo≤n)&&decide (n<high)then .go (n+1,((i+1:Nat):Int))else .out (.inr false)):=by
       unfold Bs
       dsimp only
       rw [show decide ((i:Int)< (l.length:Int))=true from bD (by omega),Bi hi,bH,lB,NE (n:=(i:Int)+1) (by omega)]
       by_cases q:lo≤n∧n<high
       ·rw [show ((decide (n<lo))||(decide (n≥high)))=false by rw [bT];simp;omega,bI,NE (n:=n+1) (by omega),bJ (by simpa using q)];rfl
       ·rw [show ((decide (n<lo))||(decide (n≥high)))=true by simp;omega,bH,bK (by simpa using q)]
     unfold Bo
     cases q:(decide (lo≤n)&&decide (n<high))
     ·rw [q]at hs;rw [D4 hs];rfl
     ·rw [q]at hs
      simp only [bO,bF]at q
      rw [K0 hs,ih (i+1) (n+1) (by omega) (K7 hi) (by omega)];rfl
  unfold Av
  have:=key l 0 low h0 rfl (by omega)
  rw [show ((0:Nat):Int)=0 from rfl]at this
  rw [this]
  cases Bo high low l<;>rfl
theorem Zr (l:List Int)(low high:Int)(hl:l.length≤1000000):Em l low high=some (Bo high low l):=by
  have key: ∀(r:List Int) (i:Nat) (lo:Int),low≤lo→(i=0→lo=low)→(0<i→l[i - 1]? =some (lo - 1))→l.drop i=r→i≤l.length→loop (Al l low high) (i:Int)=some (if Bo high lo r then .inl ()else .inr false):=by
    intro r
    induction r with
    |nil=>
     intro i lo _ _ _ hi hil
     have:=O3 hi
     refine D4 ?_
     unfold Al
     rw [show decide ((i:Int)< (l.length:Int))=false from bE (by omega)];rfl
    |cons n r ih=>
     intro i lo hlo h0 h1 hi hil
     have hlt:=N2 hi
     have hn:l[i]? =some n:=by have:=congrArg (fun z=>z[0]?) hi;simpa using this
     have hs:Al l low high (i:Int)=some (if decide (lo≤n)&&decide (n<high)then .go ((i+1:Nat):Int)else .out (.inr false)):=by
       unfold Al
       rw [show decide ((i:Int)< (l.length:Int))=true from bD (by omega),Bi hi,bH,lB,FO,lB,FO,lB,NE (n:=(i:Int)+1) (by omega)]
       by_cases q1:n<low
       ·rw [bD q1,bK (by simp;omega)];rfl
       ·rw [bE q1]
        simp only [bR,bH,bS]
        by_cases q2:n≥high
        ·rw [bD q2,bK (by simp;omega)];rfl
        ·rw [bE q2]
         simp only [bR,bM,bS]
         by_cases q3:(i:Int)>0
         ·have e:C3 l (D9 ((i:Int) - 1))=some (lo - 1):=by
            rw [NE (n:=(i:Int) - 1) (by omega),show (i:Int) - 1=((i - 1:Nat):Int) by omega]
            exact D5 (h1 (by omega))
          rw [bD q3,bH,bH,e,lB,bM]
          by_cases q4:n≤lo - 1
          ·rw [bD q4,bK (by simp;omega)];rfl
          ·rw [bE q4,bJ (by simp;omega)];rfl
         ·have:lo=low:=h0 (by omega)
          rw [bE q3,bI,lB,bN,bJ (by simp;omega)];rfl
     unfold Bo
     cases q:(decide (lo≤n)&&decide (n<high))
     ·rw [q]at hs;rw [D4 hs];rfl
     ·rw [q]at hs
      simp only [bO,bF]at q
      rw [K0 hs,ih (i+1) (n+1) (by omega) (fun z=>by omega) (fun _=>by rw [Nat.add_sub_cancel,hn];congr 1;omega) (K7 hi) (by omega)];rfl
  unfold Em
  have:=key l 0 low (Int.le_refl _) (fun _=>rfl) (fun z=>by omega) rfl (by omega)
  rw [show ((0:Nat):Int)=0 from rfl]at this
  rw [this]
  cases Bo high low l<;>rfl
noncomputable def Pf (c:Curve):Int:=Zq 0 (Kp c)
theorem eE {m:Map}{i:Nat}{l:Lane}(h:m.Lanes[i]? =some l)(hl:l.Curve_.Pts.length≤1000000):Bu m (i:Int)=some (Pf l.Curve_):=by
  unfold Bu
  rw [D5 h,lB,Ut _ hl];rfl
/-- The lists of a map are of bearable lengths. -/
structure Bear (m:Map):Prop where
  lanes:m.Lanes.length≤1000000
  pts: ∀l∈m.Lanes,l.Curve_.Pts.length≤1000000∧l.Next.length≤1000000
noncomputable def laneE (n:Nat)(i:Nat)(l:Lane):Option Int:=
  if (Fv l.Kind).1=0 then some 4
  else if By l.Curve_.Pts≠0 then some (By l.Curve_.Pts)
  else if (Te l.Half 200 4000&&Te l.Limit 1 (Fv l.Kind).1)=false then some 2
  else if 3<l.Next.length then some 8
  else if Bo n (i+1) l.Next=false then some 11 else none
theorem ZV {m:Map}(B:Bear m):U3 ⟨m⟩=some ((J5 (laneE m.Lanes.length) 0 m.Lanes).getD 0):=by
  have h:=Aq m.Lanes (Q4 ⟨m⟩) (laneE m.Lanes.length) (fun i l hl=>by
    have hi:=J7 hl
    have hb:=B.lanes
    obtain ⟨p1,p2⟩:=B.pts l (lG hl)
    unfold Q4 laneE
    dsimp only
    rw [show decide ((i:Int)< (m.Lanes.length:Int))=true from bD (by omega),D5 hl,bH,lB,DI,lB,Wq _ p1,lB,Pq,Pq,lB,FO,lB,NE (n:=(i:Int)+1) (by omega),DJ _ _ _ p2 (by omega) (by omega),lB]
    by_cases h1:(Fv l.Kind).1=0
    ·rw [bJ h1,show ((Fv l.Kind).1==0)=true by simpa using h1];rfl
    ·rw [bK h1,show ((Fv l.Kind).1==0)=false by simpa using h1,bI]
     by_cases h2:By l.Curve_.Pts≠0
     ·rw [bJ h2,show (By l.Curve_.Pts !=0)=true by simpa using h2];rfl
     ·rw [bK h2,show (By l.Curve_.Pts !=0)=false by simpa using h2,bI]
      cases Te l.Half 200 4000
      ·rfl
      ·cases Te l.Limit 1 (Fv l.Kind).1
       ·rfl
       ·simp only [bQ,bR,bH,bI,bS,Bool.and_self]
        rw [bK (by decide)]
        by_cases h3:3<l.Next.length
        ·rw [bJ h3,show decide ((l.Next.length:Int)>3)=true from bD (by omega)];rfl
        ·rw [bK h3,show decide ((l.Next.length:Int)>3)=false from bE (by omega),bI]
         cases Bo (m.Lanes.length:Int) ((i:Int)+1) l.Next<;>rfl) (by
    unfold Q4
    dsimp only
    rw [show decide ((m.Lanes.length:Int)< (m.Lanes.length:Int))=false from bE (by omega)];rfl)
  unfold U3
  rw [h]
  cases J5 (laneE m.Lanes.length) 0 m.Lanes<;>rfl
theorem ZW (k:Int):((decide (k<1))||(decide (k>3)))=decide ((Fv k).1=0):=by
  unfold Fv
  by_cases h1:k=1
  ·subst h1;rfl
  ·by_cases h2:k=2
   ·subst h2;rfl
   ·by_cases h3:k=3
    ·subst h3;rfl
    ·rw [bK h1,bK h2,bK h3]
     simp only [decide_true,bP,bF]
     omega
theorem ZX {m:Map}(B:Bear m){i:Nat}{l:Lane}(hl:m.Lanes[i]? =some l):Ha m (i:Int)=some ((laneE m.Lanes.length i l).getD 0):=by
  have hi:=J7 hl
  have hb:=B.lanes
  obtain ⟨p1,p2⟩:=B.pts l (lG hl)
  unfold Ha laneE
  rw [D5 hl,lB,ZW,Wr _ p1,lB,Ue,lB,Qq,Qq,lB,FO,lB,NE (n:=(i:Int)+1) (by omega),Zr _ _ _ p2,lB]
  by_cases h1:(Fv l.Kind).1=0
  ·rw [bJ h1,bD h1];rfl
  ·rw [bK h1,bE h1,bI]
   by_cases h2:By l.Curve_.Pts≠0
   ·rw [bJ h2,show (By l.Curve_.Pts !=0)=true by simpa using h2];rfl
   ·rw [bK h2,show (By l.Curve_.Pts !=0)=false by simpa using h2,bI]
    cases Te l.Half 200 4000
    ·rfl
    ·cases Te l.Limit 1 (Fv l.Kind).1
     ·rfl
     ·simp only [bQ,bR,bH,bI,bS,Bool.and_self]
      rw [bK (by decide)]
      by_cases h3:3<l.Next.length
      ·rw [bJ h3,show decide ((l.Next.length:Int)>3)=true from bD (by omega)];rfl
      ·rw [bK h3,show decide ((l.Next.length:Int)>3)=false from bE (by omega),bI]
       cases Bo (m.Lanes.length:Int) ((i:Int)+1) l.Next<;>rfl
theorem IA {n i:Nat}{l:Lane}{e:Int}(h:laneE n i l=some e):e≠0:=by
  unfold laneE at h
  split at h
  ·cases h;decide
  ·split at h
   ·rename_i h2;cases h;exact h2
   ·split at h
    ·cases h;decide
    ·split at h
     ·cases h;decide
     ·split at h
      ·cases h;decide
      ·cases h
theorem PL {m:Map}(B:Bear m):loop (Cy m) 0=some (HZ (J5 (laneE m.Lanes.length) 0 m.Lanes)):=
  Aq m.Lanes (Cy m) (laneE m.Lanes.length) (fun i l hl=>by
   have hi:=J7 hl
   have hb:=B.lanes
   unfold Cy
   rw [show decide ((i:Int)< (m.Lanes.length:Int))=true from bD (by omega),ZX B hl,bH,lB,NE (n:=(i:Int)+1) (by omega)]
   cases h:laneE m.Lanes.length i l with
   |none=>rfl
   |some e=>
    rw [Option.getD_some,show (e !=0)=true by simpa using IA h];rfl) (by
   unfold Cy
   rw [show decide ((m.Lanes.length:Int)< (m.Lanes.length:Int))=false from bE (by omega)];rfl)
theorem Jr {high:Int}: ∀{l:List Int} {low:Int},Bo high low l=true→∀k∈l,low≤k∧k<high
  | [],_,_,k,hk=>by cases hk
  |n::r,low,h,k,hk=>by
   unfold Bo at h
   simp only [bO,bF]at h
   rcases lU.1 hk with rfl|hk
   ·exact h.1
   ·have:=Jr h.2 k hk
    omega
/-- What a lane is that has no error of its own. -/
structure LaneOK (n i:Nat)(l:Lane):Prop where
  kind:(Fv l.Kind).1≠0
  curve:By l.Curve_.Pts=0
  half:Te l.Half 200 4000=true
  limit:Te l.Limit 1 (Fv l.Kind).1=true
  few:l.Next.length≤3
  next:Bo n (i+1) l.Next=true
theorem SD {n i:Nat}{l:Lane}(h:laneE n i l=none):LaneOK n i l:=by
  unfold laneE at h
  split at h
  ·cases h
  ·rename_i h1
   split at h
   ·cases h
   ·rename_i h2
    split at h
    ·cases h
    ·rename_i h3
     split at h
     ·cases h
     ·rename_i h4
      split at h
      ·cases h
      ·rename_i h5
       simp only [Bool.not_eq_false,bO]at h3
       exact ⟨h1,Decidable.not_not.1 h2,h3.1,h3.2,by omega,by simpa using h5⟩
theorem Ws {m:Map}(h:J5 (laneE m.Lanes.length) 0 m.Lanes=none){i:Nat}{l:Lane}(hl:m.Lanes[i]? =some l):LaneOK m.Lanes.length i l:=by
  have:=firstE_none.1 h i l hl
  rw [wD]at this
  exact SD this
theorem DK {l:List Spot}(h:By l=0):2≤l.length:=by
  unfold By at h
  split at h
  ·cases h
  ·omega
def Yo (l:List Spot):Spot:=l.headD ⟨0,0⟩
def Uu (l:List Spot):Spot:=l.getLastD ⟨0,0⟩
theorem KQ {l:List Spot}(h:2≤l.length):C3 l 0=some (Yo l):=by
  cases l with
  |nil=>simp at h
  |cons a r=>rfl
theorem KR {l:List Spot}(h:2≤l.length)(hl:l.length≤1000000):C3 l (D9 ((l.length:Int) - 1))=some (Uu l):=by
  rw [NE (by omega),show (l.length:Int) - 1=((l.length - 1:Nat):Int) by omega]
  refine D5 ?_
  unfold Uu
  rw [List.getLastD_eq_getLast?,List.getLast?_eq_getElem?]
  rw [lH (by omega)];rfl
def PM (a b:Spot):Bool:=a.X==b.X&& (a.Y==b.Y&&true)
def Wt (m:Map)(l:Lane)(_:Nat)(k:Int):Option Int:=
  match m.Lanes[k.toNat]? with
  |some n=>if n.Kind≠l.Kind then some 4 else if PM (Yo n.Curve_.Pts) (Uu l.Curve_.Pts)=false then some 3 else none
  |none=>none
def nextE (m:Map)(_:Nat)(l:Lane):Option Int:=J5 (Wt m l) 0 l.Next
theorem IB {m:Map}(B:Bear m)(H:J5 (laneE m.Lanes.length) 0 m.Lanes=none){i:Nat}{l:Lane}(hl:m.Lanes[i]? =some l){j:Nat}{k:Int}(hk:l.Next[j]? =some k):
    ∃n,C3 m.Lanes k=some n∧m.Lanes[k.toNat]? =some n∧2≤n.Curve_.Pts.length∧n.Curve_.Pts.length≤1000000:=by
  have L:=Ws H hl
  have hb:=Jr L.next k (lG hk)
  have hlt:k.toNat<m.Lanes.length:=by omega
  refine ⟨m.Lanes[k.toNat],?_,lH hlt,DK (Ws H (lH hlt)).curve,(B.pts _ (List.getElem_mem hlt)).1⟩
  unfold C3
  rw [bJ (by omega),lH hlt]
theorem VN {m:Map}{l:Lane}{j:Nat}{k e:Int}(h:Wt m l j k=some e):e≠0:=by
  unfold Wt at h
  split at h
  ·split at h
   ·cases h;decide
   ·split at h
    ·cases h;decide
    ·cases h
  ·cases h
theorem KS {m:Map}(B:Bear m)(H:J5 (laneE m.Lanes.length) 0 m.Lanes=none){i:Nat}{l:Lane}(hl:m.Lanes[i]? =some l):
    loop (W6 ⟨m⟩ l (Uu l.Curve_.Pts)) 0=some (HZ (nextE m i l))∧loop (Am m l) 0=some (HZ (nextE m i l)):=by
  have L:=Ws H hl
  obtain ⟨p1,p2⟩:=B.pts l (lG hl)
  constructor
  ·refine Aq l.Next _ (Wt m l) (fun j k hk=> ?_) ?_
   ·have hj:=J7 hk
    obtain ⟨n,g1,g2,g3,g4⟩:=IB B H hl hk
    unfold W6 Wt
    dsimp only
    rw [show decide ((j:Int)< (l.Next.length:Int))=true from bD (by omega),D5 hk,bH,lB,g1,lB,lB,KQ g3,lB,NE (n:=(j:Int)+1) (by omega),g2]
    dsimp only
    rw [show ((Yo n.Curve_.Pts).X==(Uu l.Curve_.Pts).X&& ((Yo n.Curve_.Pts).Y==(Uu l.Curve_.Pts).Y&&true))=PM (Yo n.Curve_.Pts) (Uu l.Curve_.Pts) from rfl]
    by_cases h1:n.Kind≠l.Kind
    ·rw [bJ h1,show (n.Kind !=l.Kind)=true by simpa using h1];rfl
    ·rw [bK h1,show (n.Kind !=l.Kind)=false by simpa using h1]
     cases PM (Yo n.Curve_.Pts) (Uu l.Curve_.Pts)<;>rfl
   ·unfold W6
    rw [show decide ((l.Next.length:Int)< (l.Next.length:Int))=false from bE (by omega)];rfl
  ·refine Aq l.Next _ (Wt m l) (fun j k hk=> ?_) ?_
   ·have hj:=J7 hk
    obtain ⟨n,g1,g2,g3,g4⟩:=IB B H hl hk
    unfold Am Wt
    rw [show decide ((j:Int)< (l.Next.length:Int))=true from bD (by omega),D5 hk,bH,lB,g1,lB,KQ g3,lB,KR (DK L.curve) p1,lB,NE (n:=(j:Int)+1) (by omega),g2]
    dsimp only
    rw [show ((Yo n.Curve_.Pts).X==(Uu l.Curve_.Pts).X&& ((Yo n.Curve_.Pts).Y==(Uu l.Curve_.Pts).Y&&true))=PM (Yo n.Curve_.Pts) (Uu l.Curve_.Pts) from rfl]
    by_cases h1:n.Kind≠l.Kind
    ·rw [bJ h1,show (n.Kind !=l.Kind)=true by simpa using h1];rfl
    ·rw [bK h1,show (n.Kind !=l.Kind)=false by simpa using h1]
     cases PM (Yo n.Curve_.Pts) (Uu l.Curve_.Pts)<;>rfl
   ·unfold Am
    rw [show decide ((l.Next.length:Int)< (l.Next.length:Int))=false from bE (by omega)];rfl
theorem KT {m:Map}(B:Bear m)(H:J5 (laneE m.Lanes.length) 0 m.Lanes=none):
    T4 ⟨m⟩=some ((J5 (nextE m) 0 m.Lanes).getD 0)∧Hb m=some ((J5 (nextE m) 0 m.Lanes).getD 0):=by
  have hb:=B.lanes
  constructor
  ·have h:=Aq m.Lanes (O9 ⟨m⟩) (nextE m) (fun i l hl=>by
     have hi:=J7 hl
     have L:=Ws H hl
     obtain ⟨p1,p2⟩:=B.pts l (lG hl)
     unfold O9
     dsimp only
     rw [show decide ((i:Int)< (m.Lanes.length:Int))=true from bD (by omega),D5 hl,bH,lB,KR (DK L.curve) p1,lB,(KS B H hl).1,NE (n:=(i:Int)+1) (by omega)]
     cases nextE m i l<;>rfl) (by
     unfold O9
     dsimp only
     rw [show decide ((m.Lanes.length:Int)< (m.Lanes.length:Int))=false from bE (by omega)];rfl)
   unfold T4
   rw [h]
   cases J5 (nextE m) 0 m.Lanes<;>rfl
  ·have h:=Aq m.Lanes (An m) (nextE m) (fun i l hl=>by
     have hi:=J7 hl
     unfold An
     rw [show decide ((i:Int)< (m.Lanes.length:Int))=true from bD (by omega),D5 hl,bH,lB,(KS B H hl).2,NE (n:=(i:Int)+1) (by omega)]
     cases nextE m i l<;>rfl) (by
     unfold An
     rw [show decide ((m.Lanes.length:Int)< (m.Lanes.length:Int))=false from bE (by omega)];rfl)
   unfold Hb
   rw [h]
   cases J5 (nextE m) 0 m.Lanes<;>rfl
/-- The place of the first element with a property. -/
theorem IC {α:Type}{f:Int→Option (Stp Int (Sum Unit Int))}(l:List α)(P:α→Bool)(hl:l.length≤1000000000)(hf: ∀(i:Nat) a,l[i]? =some a→f (i:Int)=some (if P a then .out (.inr (i:Int))else .go (D9 ((i:Int)+1))))(he:f (l.length:Int)=some (.out (.inl ()))):
    loop f 0=some (match l.findIdx? P with|some i=> .inr (i:Int)|none=> .inl ()):=by
  have key: ∀(r:List α) (i:Nat),l.drop i=r→i≤l.length→loop f (i:Int)=some (match r.findIdx? P with|some j=> .inr ((i+j:Nat):Int)|none=> .inl ()):=by
    intro r
    induction r with
    |nil=>
     intro i hi hil
     have:=O3 hi
     obtain rfl:i=l.length:=by omega
     rw [D4 he];rfl
    |cons a r ih=>
     intro i hi _
     have hlt:=N2 hi
     have h0:l[i]? =some a:=by have:=congrArg (fun z=>z[0]?) hi;simpa using this
     have hs:=hf i a h0
     rw [List.findIdx?_cons]
     by_cases hp:P a=true
     ·rw [bJ hp]at hs
      rw [D4 hs,bJ hp];simp
     ·rw [bK hp]at hs
      rw [I3 (by omega)]at hs
      rw [K0 hs,show ((i:Int)+1)=((i+1:Nat):Int) by omega,ih (i+1) (K7 hi) (by omega),bK hp]
      cases r.findIdx? P with
      |none=>rfl
      |some j=>simp only [lF];congr 3;omega
  have:=key l 0 rfl (by omega)
  rw [show ((0:Nat):Int)=0 from rfl]at this
  rw [this]
  cases l.findIdx? P<;>simp
/-- -1, or the place. -/
def DL {α:Type}(P:α→Bool)(l:List α):Int:=match l.findIdx? P with|some i=>(i:Int)|none=> -1
theorem Sz {α:Type}(P:α→Bool)(l:List α):decide (DL P l≥0)=l.any P:=by
  unfold DL
  cases h:l.findIdx? P with
  |none=>
   have:=List.findIdx?_eq_none_iff.1 h
   rw [show l.any P=false by rw [List.any_eq_false];intro x hx;simpa using this x hx]
   decide
  |some i=>
   have:=List.findIdx?_isSome (xs:=l) (p:=P)
   rw [h]at this
   rw [← this]
   simp
/-- What both twins compute of a list. -/
theorem Qr {α:Type}{f:Int→Option (Stp Int (Sum Unit Int))}(l:List α)(P:α→Bool)(hl:l.length≤1000000000)(hf: ∀(i:Nat) a,l[i]? =some a→f (i:Int)=some (if P a then .out (.inr (i:Int))else .go (D9 ((i:Int)+1))))(he:f (l.length:Int)=some (.out (.inl ()))):
    thenS (loop f 0) (fun _=>some (-1)) (fun r=>some r)=some (DL P l):=by
  rw [IC l P hl hf he]
  unfold DL
  cases l.findIdx? P<;>rfl
theorem VO (l:List Phase)(hl:l.length≤1000000):E9 l=some (l.any fun p=> !Te p.Ticks 1 10000):=by
  unfold E9 G6
  rw [Qr l (fun p=> !Te p.Ticks 1 10000) (by omega) (fun i a h=>by
   have:=J7 h
   unfold J3 Df
   rw [show decide ((i:Int)< (l.length:Int))=true from bD (by omega),D5 h,bH,lB,Pq,lB,lB]
   cases Te a.Ticks 1 10000<;>rfl) (by
   unfold J3
   simp)]
  rw [lB,Sz]
theorem SE (m:Map)(l:List Phase)(hl:l.length≤1000000)(hm:m.Lanes.length≤1000000)(hg: ∀p∈l,p.Green.length≤1000000):E7 l ⟨m⟩=some (l.any fun p=> !Bo m.Lanes.length 0 p.Green):=by
  unfold E7 G4
  rw [Qr l (fun p=> !Bo m.Lanes.length 0 p.Green) (by omega) (fun i a h=>by
   have:=J7 h
   unfold E6 R9
   dsimp only
   rw [show decide ((i:Int)< (l.length:Int))=true from bD (by omega),D5 h,bH,lB,DJ _ _ _ (hg a (lG h)) (by omega) (by omega),lB,lB]
   cases Bo (m.Lanes.length:Int) 0 a.Green<;>rfl) (by
   unfold E6
   simp)]
  rw [lB,Sz]
structure BearS (m:Map):Prop where
  many:m.Signals.length≤1000000
  phases: ∀s∈m.Signals,s.Phases.length≤1000000∧∀p∈s.Phases,p.Green.length≤1000000
def signalE (m:Map)(_:Nat)(s:Signal):Option Int:=
  if s.Phases.length=0 then some 6
  else if 6<s.Phases.length then some 8
  else if Te s.Offset 0 1099511627776=false then some 2
  else if (s.Phases.any fun p=> !Te p.Ticks 1 10000)=true then some 2
  else if (s.Phases.any fun p=> !Bo m.Lanes.length 0 p.Green)=true then some 11 else none
theorem SF {m:Map}(B:Bear m)(S:BearS m):R7 ⟨m⟩=some ((J5 (signalE m) 0 m.Signals).getD 0):=by
  have h:=Aq m.Signals (O1 ⟨m⟩) (signalE m) (fun i s hs=>by
    have hi:=J7 hs
    have hb:=S.many
    obtain ⟨p1,p2⟩:=S.phases s (lG hs)
    unfold O1 signalE
    dsimp only
    rw [show decide ((i:Int)< (m.Signals.length:Int))=true from bD (by omega),D5 hs,bH,lB,Pq,lB,VO _ p1,lB,SE m _ p1 B.lanes p2,lB,NE (n:=(i:Int)+1) (by omega)]
    by_cases h1:s.Phases.length=0
    ·rw [bJ h1,h1];rfl
    ·rw [bK h1,show ((s.Phases.length:Int)==0)=false by simp only [beq_eq_false_iff_ne];omega,bI]
     by_cases h2:6<s.Phases.length
     ·rw [bJ h2,show decide ((s.Phases.length:Int)>6)=true from bD (by omega)];rfl
     ·rw [bK h2,show decide ((s.Phases.length:Int)>6)=false from bE (by omega),bI]
      cases Te s.Offset 0 1099511627776
      ·rfl
      ·cases (s.Phases.any fun p=> !Te p.Ticks 1 10000)
       ·cases (s.Phases.any fun p=> !Bo m.Lanes.length 0 p.Green)<;>rfl
       ·rfl) (by
    unfold O1
    dsimp only
    rw [show decide ((m.Signals.length:Int)< (m.Signals.length:Int))=false from bE (by omega)];rfl)
  unfold R7
  rw [h]
  cases J5 (signalE m) 0 m.Signals<;>rfl
theorem PN (s:Signal)(hl:s.Phases.length≤1000000): ∀(r:List Phase) (i:Nat) (b:Bool),s.Phases.drop i=r→i≤s.Phases.length→loop (V4 s) (b,(i:Int))=some (b&& !(r.any fun p=> !Te p.Ticks 1 10000)):=by
  intro r
  induction r with
  |nil=>
   intro i b hi hil
   have:=O3 hi
   refine D4 ?_
   unfold V4
   dsimp only
   rw [show decide ((i:Int)< (s.Phases.length:Int))=false from bE (by omega)]
   simp
  |cons p r ih=>
   intro i b hi hil
   have hlt:=N2 hi
   have hs:V4 s (b,(i:Int))=some (.go (b&&Te p.Ticks 1 10000,((i+1:Nat):Int))):=by
     unfold V4
     dsimp only
     rw [show decide ((i:Int)< (s.Phases.length:Int))=true from bD (by omega),Bi hi,NE (n:=(i:Int)+1) (by omega)]
     cases b<;>rfl
   rw [K0 hs,ih (i+1) _ (K7 hi) (by omega),List.any_cons]
   cases b<;>cases Te p.Ticks 1 10000<;>simp
theorem MV (m:Map)(s:Signal)(hl:s.Phases.length≤1000000)(hg: ∀p∈s.Phases,p.Green.length≤1000000):loop (V3 m s) 0=some (if (s.Phases.any fun p=> !Bo m.Lanes.length 0 p.Green)=true then .inr 11 else .inl ()):=by
  have h:=Aq s.Phases (V3 m s) (fun _ p=>if Bo m.Lanes.length 0 p.Green then none else some 11) (fun i p hp=>by
    have:=J7 hp
    unfold V3
    rw [show decide ((i:Int)< (s.Phases.length:Int))=true from bD (by omega),D5 hp,bH,lB,Zr _ _ _ (hg p (lG hp)),lB,NE (n:=(i:Int)+1) (by omega)]
    cases Bo (m.Lanes.length:Int) 0 p.Green<;>rfl) (by
    unfold V3
    rw [show decide ((s.Phases.length:Int)< (s.Phases.length:Int))=false from bE (by omega)];rfl)
  rw [h]
  have key: ∀(l:List Phase) (i:Nat),HZ (J5 (fun (_:Nat) (p:Phase)=>if Bo (m.Lanes.length:Int) 0 p.Green=true then none else some (11:Int)) i l)=if (l.any fun p=> !Bo m.Lanes.length 0 p.Green)=true then .inr 11 else .inl ():=by
    intro l
    induction l with
    |nil=>intro i;rfl
    |cons p r ih=>
     intro i
     unfold J5
     rw [List.any_cons]
     cases hq:Bo (m.Lanes.length:Int) 0 p.Green
     ·rfl
     ·exact ih (i+1)
  rw [key]
end Go.Abs.World
/-! Loops over lists, as functions on lists. -/
namespace Go.Abs
open Go
section
variable {α β σ S τ:Type}
/-- What a loop over a list makes, with a state, and with a way out. -/
def ID (step:Nat→σ→α→Sum σ τ)(fin:σ→τ):Nat→σ→List α→τ
  |_,s,[]=>fin s
  |i,s,a::r=>match step i s a with
   | .inl s'=>ID step fin (i+1) s' r
   | .inr t=>t
theorem X0 {l:List α}{i:Nat}{a:α}{r:List α}(h:l.drop i=a::r):l[i]? =some a:=by
  have:=congrArg (fun z=>z[0]?) h
  simpa using this
theorem fO {F:S→Option (Stp S τ)}(pk:Nat→σ→S)(l:List α)(inv:Nat→σ→Prop)(step:Nat→σ→α→Sum σ τ)(fin:σ→τ){s0:σ}{S0:S}(hS:pk 0 s0=S0)(hi:inv 0 s0)
    (hF: ∀i a s,l[i]? =some a→inv i s→F (pk i s)=some (match step i s a with| .inl s'=> .go (pk (i+1) s')| .inr t=> .out t))
    (hI: ∀i a s s',l[i]? =some a→inv i s→step i s a= .inl s'→inv (i+1) s')
    (h0: ∀s,inv l.length s→F (pk l.length s)=some (.out (fin s))):loop F S0=some (ID step fin 0 s0 l):=by
  have key: ∀(r:List α) (i:Nat) (s:σ),l.drop i=r→i≤l.length→inv i s→loop F (pk i s)=some (ID step fin i s r):=by
    intro r
    induction r with
    |nil=>
     intro i s hi hil hv
     have:=O3 hi
     obtain rfl:i=l.length:=by omega
     exact D4 (h0 s hv)
    |cons a r ih=>
     intro i s hi hil hv
     have hlt:=N2 hi
     have ha:=X0 hi
     have hs:=hF i a s ha hv
     unfold ID
     cases h:step i s a with
     |inl s'=>rw [h]at hs;rw [K0 hs];exact ih (i+1) s' (K7 hi) (by omega) (hI i a s s' ha hv h)
     |inr t=>rw [h]at hs;exact D4 hs
  rw [← hS]
  exact key l 0 s0 rfl (by omega) hi
/-- The same without a way out. -/
def CC (step:Nat→σ→α→σ):Nat→σ→List α→σ
  |_,s,[]=>s
  |i,s,a::r=>CC step (i+1) (step i s a) r
theorem EE (step:Nat→σ→α→σ)(fin:σ→τ): ∀(l:List α) (i:Nat) (s:σ),ID (fun i s a=> .inl (step i s a)) fin i s l=fin (CC step i s l)
  | [],_,_=>rfl
  |_::r,i,_=>EE step fin r (i+1) _
theorem ZY {F:S→Option (Stp S τ)}(pk:Nat→σ→S)(l:List α)(inv:Nat→σ→Prop)(step:Nat→σ→α→σ)(fin:σ→τ){s0:σ}{S0:S}(hS:pk 0 s0=S0)(hi:inv 0 s0)
    (hF: ∀i a s,l[i]? =some a→inv i s→F (pk i s)=some (.go (pk (i+1) (step i s a))))
    (hI: ∀i a s,l[i]? =some a→inv i s→inv (i+1) (step i s a))
    (h0: ∀s,inv l.length s→F (pk l.length s)=some (.out (fin s))):loop F S0=some (fin (CC step 0 s0 l)):=by
  rw [← EE step fin]
  exact fO pk l inv _ fin hS hi hF (fun i a s s' h1 h2 h3=>by cases h3;exact hI i a s h1 h2) h0
/-- The elements that a loop gathers. -/
def Fw (g:Nat→α→Option β):Nat→List α→List β
  |_,[]=> []
  |i,a::r=>match g i a with
   |some b=>b::Fw g (i+1) r
   |none=>Fw g (i+1) r
theorem Xj (g:Nat→α→Option β): ∀(l:List α) (i:Nat),(Fw g i l).length≤l.length
  | [],_=>wA _
  |a::r,i=>by
   have:=Xj g r (i+1)
   unfold Fw
   cases g i a<;>simp only [lL]<;>omega
theorem Zs (g:Nat→α→Option β): ∀(l:List α) (i:Nat) (s:List β),CC (fun i s a=>match g i a with|some b=>s++ [b]|none=>s) i s l=s++Fw g i l
  | [],_,s=>by simp [CC,Fw]
  |a::r,i,s=>by
   unfold CC Fw
   rw [Zs g r (i+1)]
   cases g i a<;>simp
theorem fP {F:S→Option (Stp S τ)}(pk:Nat→List β→S)(l:List α)(g:Nat→α→Option β)(fin:List β→τ){S0:S}(hS:pk 0 []=S0)
    (hF: ∀i a (s:List β),l[i]? =some a→s.length≤i→F (pk i s)=some (.go (pk (i+1) (match g i a with|some b=>s++ [b]|none=>s))))
    (h0: ∀s,F (pk l.length s)=some (.out (fin s))):loop F S0=some (fin (Fw g 0 l)):=by
  have:=ZY pk l (fun i s=>s.length≤i) (fun i s a=>match g i a with|some b=>s++ [b]|none=>s) fin hS (by simp) hF (fun i a s _ hs=>by
    cases g i a<;>simp<;>omega) (fun s _=>h0 s)
  rw [this,Zs,lQ]
theorem DM {F:List β×Int→Option (Stp (List β×Int) τ)}(l:List α)(g:Nat→α→Option β)(fin:List β→τ)
    (hF: ∀(i:Nat) a (s:List β),l[i]? =some a→s.length≤i→F (s,(i:Int))=some (.go ((match g i a with|some b=>s++ [b]|none=>s),((i+1:Nat):Int))))
    (h0: ∀s,F (s,(l.length:Int))=some (.out (fin s))):loop F ([],0)=some (fin (Fw g 0 l)):=fP (fun i s=>(s,(i:Int))) l g fin rfl hF h0
/-- Is there one? -/
theorem IE {F:Int→Option (Stp Int (Sum Unit β))}(l:List α)(p:α→Bool)(v:β)(hF: ∀(i:Nat) a,l[i]? =some a→F (i:Int)=some (if p a then .out (.inr v)else .go ((i+1:Nat):Int)))(h0:F (l.length:Int)=some (.out (.inl ()))):
    loop F 0=some (if l.any p then .inr v else .inl ()):=by
  have key: ∀(l:List α) (i:Nat),ID (fun _ _ a=>if p a then Sum.inr (Sum.inr v)else Sum.inl ()) (fun _=>(Sum.inl ():Sum Unit β)) i () l=if l.any p then .inr v else .inl ():=by
    intro l
    induction l with
    |nil=>intro i;rfl
    |cons a r ih=>
     intro i
     unfold ID
     rw [List.any_cons]
     cases h:p a
     ·exact ih (i+1)
     ·rfl
  rw [← key l 0]
  exact fO (F:=F) (σ:=Unit) (fun i _=>(i:Int)) l (fun _ _=>True) _ _ (s0:=()) rfl trivial (fun i a _ h _=>by rw [hF i a h];cases p a<;>rfl) (fun _ _ _ _ _ _ _=>trivial) (fun _ _=>h0)
end
theorem L9 {i:Nat}{n:Nat}(h:i<n):decide ((i:Int)< (n:Int))=true:=bD (by omega)
theorem K2 (n:Nat):decide ((n:Int)< (n:Int))=false:=bE (by omega)
theorem J1 {i:Nat}{n:Nat}(h:i<n)(hn:n≤1000000000000):D9 ((i:Int)+1)=((i+1:Nat):Int):=by rw [I3 (by omega)];omega
end Go.Abs
namespace Go.Abs.World
open Go Go.Abs
structure BearZ (m:Map):Prop where
  many:m.Zones.length≤1000000
  parts: ∀z∈m.Zones,z.Parts.length≤1000000
noncomputable def P7 (m:Map)(k:Int):Int:=((m.Lanes[k.toNat]?).map fun l=>Pf l.Curve_).getD 0
noncomputable def Rs (m:Map)(p:Part):Bool:=decide (p.From<0)||decide (p.From≥p.To)||decide (p.To>P7 m p.Lane_)||decide (p.Rank<0)||decide (p.Rank>100)
noncomputable def zoneE (m:Map)(_:Nat)(z:Zone):Option Int:=
  if z.Parts.length<2 then some 6
  else if 6<z.Parts.length then some 8
  else if z.Signal_<0∨(m.Signals.length:Int)<z.Signal_ then some 2
  else if Bo m.Lanes.length 0 (z.Parts.map (·.Lane_))=false then some 11
  else if z.Parts.any (Rs m)=true then some 2 else none
theorem Rt {m:Map}{k:Int}(h0:0≤k)(h1:k<m.Lanes.length): ∃l,m.Lanes[k.toNat]? =some l∧C3 m.Lanes k=some l:=by
  have hlt:k.toNat<m.Lanes.length:=by omega
  refine ⟨m.Lanes[k.toNat],lH hlt,?_⟩
  unfold C3
  rw [bJ h0,lH hlt]
theorem FP {m:Map}(B:Bear m){k:Int}(h0:0≤k)(h1:k<m.Lanes.length):Bu m k=some (P7 m k):=by
  obtain ⟨l,e1,e2⟩:=Rt h0 h1
  have:=eE (m:=m) e1 (B.pts l (lG e1)).1
  rw [show ((k.toNat:Nat):Int)=k by omega]at this
  rw [this,P7,e1];rfl
theorem IF {m:Map}(B:Bear m){k:Int}(h0:0≤k)(h1:k<m.Lanes.length): ∃l,C3 m.Lanes k=some l∧Dw l.Curve_=some (P7 m k):=by
  obtain ⟨l,e1,e2⟩:=Rt h0 h1
  refine ⟨l,e2,?_⟩
  rw [FF _ (B.pts l (lG e1)).1,P7,e1];rfl
theorem PO {α β:Type}(f:α→β): ∀(l:List α) (i:Nat),Fw (fun _ a=>some (f a)) i l=l.map f
  | [],_=>rfl
  |a::r,i=>by rw [Fw,PO f r];rfl
theorem ZZ {z:Zone}{F:List Int×Int→Option (Stp (List Int×Int) (List Int))}(hl:z.Parts.length≤1000000)
    (hF: ∀x,F x=cond (decide (x.2< (z.Parts.length:Int))) ((C3 z.Parts x.2).bind fun v=>(Au x.1 [v.Lane_]).bind fun w=>some (.go (w,D9 (x.2+1)))) (some (.out x.1))):
    loop F ([],0)=some (z.Parts.map (·.Lane_)):=by
  rw [← PO (fun p:Part=>p.Lane_) z.Parts 0]
  refine fP (fun i s=>(s,(i:Int))) z.Parts (fun _ p=>some p.Lane_) id rfl (fun i a s ha hs=> ?_) (fun s=> ?_)
  ·have hi:=J7 ha
   rw [hF,L9 hi,D5 ha,bH,lB,Je (by simp;omega),lB,J1 hi (by omega)]
  ·rw [hF,K2];rfl
theorem aA {m:Map}(B:Bear m)(Z:BearZ m):U4 ⟨m⟩=some ((J5 (zoneE m) 0 m.Zones).getD 0):=by
  have hb:=B.lanes
  have h:=Aq m.Zones (Q6 ⟨m⟩) (zoneE m) (fun i z hz=>by
    have hi:=J7 hz
    have hm:=Z.many
    have p1:=Z.parts z (lG hz)
    unfold Q6 zoneE
    dsimp only
    rw [L9 hi,D5 hz,bH,lB,ZZ p1 (F:=Ed z) (fun x=>rfl),lB,DJ _ _ _ (by simpa using p1) (by omega) (by omega),lB,J1 hi (by omega)]
    by_cases h1:z.Parts.length<2
    ·rw [bJ h1,show decide ((z.Parts.length:Int)<2)=true from bD (by omega)];rfl
    ·rw [bK h1,show decide ((z.Parts.length:Int)<2)=false from bE (by omega),bI]
     by_cases h2:6<z.Parts.length
     ·rw [bJ h2,show decide ((z.Parts.length:Int)>6)=true from bD (by omega)];rfl
     ·rw [bK h2,show decide ((z.Parts.length:Int)>6)=false from bE (by omega),bI]
      by_cases h3:z.Signal_<0∨(m.Signals.length:Int)<z.Signal_
      ·rw [bJ h3,show ((decide (z.Signal_<0))||(decide (z.Signal_>(m.Signals.length:Int))))=true by simpa using h3];rfl
      ·rw [bK h3,show ((decide (z.Signal_<0))||(decide (z.Signal_>(m.Signals.length:Int))))=false by rw [bT];simpa using h3,bI]
       cases h4:Bo (m.Lanes.length:Int) 0 (z.Parts.map (·.Lane_))
       ·rfl
       ·rw [bK (by decide)]
        have:=IE (F:=Q5 ⟨m⟩ z) z.Parts (Rs m) (2:Int) (fun j p hp=>by
          have hj:=J7 hp
          have hk:=Jr h4 p.Lane_ (List.mem_map.2 ⟨p,lG hp,rfl⟩)
          unfold Q5 Rs
          dsimp only
          rw [L9 hj,D5 hp,bH,lB,FP B hk.1 hk.2,J1 hj (by omega)]
          cases h5:(decide (p.From<0)||decide (p.From≥p.To))
          ·simp only [bR,bH,lB]
           cases (false||decide (p.To>P7 m p.Lane_)||decide (p.Rank<0)||decide (p.Rank>100))<;>rfl
          ·rfl) (by unfold Q5;rw [K2];rfl)
        rw [this]
        cases z.Parts.any (Rs m)<;>rfl) (by
    unfold Q6
    dsimp only
    rw [K2];rfl)
  unfold U4
  rw [h]
  cases J5 (zoneE m) 0 m.Zones<;>rfl
theorem aB {m:Map}(B:Bear m)(Z:BearZ m){i:Nat}{z:Zone}(hz:m.Zones[i]? =some z):Hc m z=some ((zoneE m i z).getD 0):=by
  have hb:=B.lanes
  have p1:=Z.parts z (lG hz)
  unfold Hc zoneE
  rw [ZZ p1 (F:=Gi z) (fun x=>rfl),lB,Zr _ _ _ (by simpa using p1),lB]
  by_cases h1:z.Parts.length<2
  ·rw [bJ h1,show decide ((z.Parts.length:Int)<2)=true from bD (by omega)];rfl
  ·rw [bK h1,show decide ((z.Parts.length:Int)<2)=false from bE (by omega),bI]
   by_cases h2:6<z.Parts.length
   ·rw [bJ h2,show decide ((z.Parts.length:Int)>6)=true from bD (by omega)];rfl
   ·rw [bK h2,show decide ((z.Parts.length:Int)>6)=false from bE (by omega),bI]
    by_cases h3:z.Signal_<0∨(m.Signals.length:Int)<z.Signal_
    ·rw [bJ h3,show ((decide (z.Signal_<0))||(decide (z.Signal_>(m.Signals.length:Int))))=true by simpa using h3];rfl
    ·rw [bK h3,show ((decide (z.Signal_<0))||(decide (z.Signal_>(m.Signals.length:Int))))=false by rw [bT];simpa using h3,bI]
     cases h4:Bo (m.Lanes.length:Int) 0 (z.Parts.map (·.Lane_))
     ·rfl
     ·rw [bK (by decide)]
      have:=IE (F:=Ao m z) z.Parts (Rs m) (2:Int) (fun j p hp=>by
        have hj:=J7 hp
        have hk:=Jr h4 p.Lane_ (List.mem_map.2 ⟨p,lG hp,rfl⟩)
        obtain ⟨l,e1,e2⟩:=IF B hk.1 hk.2
        unfold Ao Rs
        rw [L9 hj,D5 hp,bH,lB,e1,J1 hj (by omega)]
        cases h5:(decide (p.From<0)||decide (p.From≥p.To))
        ·simp only [bR,bH,lB,e2]
         cases (false||decide (p.To>P7 m p.Lane_)||decide (p.Rank<0)||decide (p.Rank>100))<;>rfl
        ·rfl) (by unfold Ao;rw [K2];rfl)
      rw [this]
      cases z.Parts.any (Rs m)<;>rfl
structure BearW (m:Map):Prop where
  many:m.Works.length≤1000000
noncomputable def workE (m:Map)(_:Nat)(w:Work):Option Int:=
  if w.Lane_<0∨(m.Lanes.length:Int)≤w.Lane_ then some 7
  else if (decide (w.From<0)||decide (w.From>w.To)||decide (w.To>P7 m w.Lane_)||decide (w.Begin<0)||decide (w.Begin≥w.End)||decide (w.End>1099511627776)|| !Te w.Limit 0 ((m.Lanes[w.Lane_.toNat]?).map fun l=>(Fv l.Kind).1).get!)=true then some 2 else none
theorem aC {m:Map}(B:Bear m)(W:BearW m):U5 ⟨m⟩=some ((J5 (workE m) 0 m.Works).getD 0):=by
  have hb:=B.lanes
  have h:=Aq m.Works (Q7 ⟨m⟩) (workE m) (fun i w hw=>by
    have hi:=J7 hw
    have hm:=W.many
    unfold Q7 workE
    dsimp only
    rw [L9 hi,D5 hw,bH,lB,J1 hi (by omega)]
    by_cases h1:w.Lane_<0∨(m.Lanes.length:Int)≤w.Lane_
    ·rw [bJ h1,show ((decide (w.Lane_<0))||(decide (w.Lane_≥(m.Lanes.length:Int))))=true by simpa using h1];rfl
    ·rw [bK h1,show ((decide (w.Lane_<0))||(decide (w.Lane_≥(m.Lanes.length:Int))))=false by rw [bT];simpa using h1,bI]
     obtain ⟨l,e1,e2⟩:=Rt (m:=m) (k:=w.Lane_) (by omega) (by omega)
     rw [e2,lB,DI,lB,FP B (by omega) (by omega),Pq,e1]
     simp only [lF,Option.get!_some]
     cases (decide (w.From<0)||decide (w.From>w.To))
     ·simp only [bR,bH,lB]
      cases (false||decide (w.To>P7 m w.Lane_)||decide (w.Begin<0)||decide (w.Begin≥w.End)||decide (w.End>1099511627776))
      ·simp only [bR,bH,lB]
       by_cases hq:Te w.Limit 0 (Fv l.Kind).1=true<;>simp [hq]
      ·rfl
     ·rfl) (by
    unfold Q7
    dsimp only
    rw [K2];rfl)
  unfold U5
  rw [h]
  cases J5 (workE m) 0 m.Works<;>rfl
theorem aD {m:Map}(B:Bear m){i:Nat}(w:Work):Hd m w=some ((workE m i w).getD 0):=by
  have hb:=B.lanes
  unfold Hd workE
  by_cases h1:w.Lane_<0∨(m.Lanes.length:Int)≤w.Lane_
  ·rw [bJ h1,show ((decide (w.Lane_<0))||(decide (w.Lane_≥(m.Lanes.length:Int))))=true by simpa using h1];rfl
  ·rw [bK h1,show ((decide (w.Lane_<0))||(decide (w.Lane_≥(m.Lanes.length:Int))))=false by rw [bT];simpa using h1,bI]
   obtain ⟨l,e1,e2⟩:=Rt (m:=m) (k:=w.Lane_) (by omega) (by omega)
   obtain ⟨l',e3,e4⟩:=IF B (k:=w.Lane_) (by omega) (by omega)
   rw [e2]at e3
   cases e3
   rw [e2,lB,Ue,lB,e4,Qq,e1]
   simp only [lF,Option.get!_some]
   cases (decide (w.From<0)||decide (w.From>w.To))
   ·simp only [bR,bH,lB]
    cases (false||decide (w.To>P7 m w.Lane_)||decide (w.Begin<0)||decide (w.Begin≥w.End)||decide (w.End>1099511627776))
    ·simp only [bR,bH,lB]
     by_cases hq:Te w.Limit 0 (Fv l.Kind).1=true<;>simp [hq]
    ·rfl
   ·rfl
theorem SG {m:Map}(S:BearS m)(i:Nat){s:Signal}(hs:s∈m.Signals):Dv m s=some ((signalE m i s).getD 0):=by
  obtain ⟨p1,p2⟩:=S.phases s hs
  unfold Dv signalE
  rw [Qq,lB,show (0:Int)=((0:Nat):Int) from rfl,PN s p1 s.Phases 0 _ rfl (by omega),lB]
  rw [show ((0:Nat):Int)=0 from rfl,MV m s p1 p2]
  by_cases h1:s.Phases.length=0
  ·rw [bJ h1,h1];rfl
  ·rw [bK h1,show ((s.Phases.length:Int)==0)=false by simp only [beq_eq_false_iff_ne];omega,bI]
   by_cases h2:6<s.Phases.length
   ·rw [bJ h2,show decide ((s.Phases.length:Int)>6)=true from bD (by omega)];rfl
   ·rw [bK h2,show decide ((s.Phases.length:Int)>6)=false from bE (by omega),bI]
    cases Te s.Offset 0 1099511627776
    ·rfl
    ·cases (s.Phases.any fun p=> !Te p.Ticks 1 10000)
     ·cases (s.Phases.any fun p=> !Bo m.Lanes.length 0 p.Green)<;>rfl
     ·rfl
/-- All lists of a map are of bearable lengths. -/
structure BearM (m:Map):Prop where
  toBear:Bear m
  toBearS:BearS m
  toBearZ:BearZ m
  toBearW:BearW m
theorem BearM.lanes {m:Map}(B:BearM m):m.Lanes.length≤1000000:=B.toBear.lanes
noncomputable def Ta (m:Map):Int:=
  if Te m.Version 0 1099511627776=false then 2
  else if m.Lanes.length=0 then 6
  else if 12<m.Lanes.length∨12<m.Zones.length∨4<m.Signals.length∨8<m.Works.length then 8
  else ((J5 (laneE m.Lanes.length) 0 m.Lanes).or ((J5 (nextE m) 0 m.Lanes).or ((J5 (signalE m) 0 m.Signals).or ((J5 (zoneE m) 0 m.Zones).or (J5 (workE m) 0 m.Works))))).getD 0
theorem Ar {α:Type}{g:Nat→α→Option Int}(h: ∀i a e,g i a=some e→e≠0): ∀{l:List α} {i:Nat} {e:Int},J5 g i l=some e→e≠0
  | [],_,_,q=>by cases q
  |a::r,i,e,q=>by
   unfold J5 at q
   cases hg:g i a with
   |some e'=>rw [hg]at q;cases q;exact h i a e hg
   |none=>rw [hg]at q;exact Ar h q
theorem CD {m:Map}{i:Nat}{z:Zone}{e:Int}(h:zoneE m i z=some e):e≠0:=by
  unfold zoneE at h
  repeat' split at h
  all_goals first|(cases h;decide)|cases h
theorem Uf {m:Map}{i:Nat}{z:Signal}{e:Int}(h:signalE m i z=some e):e≠0:=by
  unfold signalE at h
  repeat' split at h
  all_goals first|(cases h;decide)|cases h
theorem IG {m:Map}{i:Nat}{z:Work}{e:Int}(h:workE m i z=some e):e≠0:=by
  unfold workE at h
  repeat' split at h
  all_goals first|(cases h;decide)|cases h
theorem IH {m:Map}{i:Nat}{z:Lane}{e:Int}(h:nextE m i z=some e):e≠0:=Ar (fun _ _ _=>VN) h
/-- A loop that goes on as long as there is no error. -/
theorem aE {α:Type}{F:Int×Int→Option (Stp (Int×Int) Int)}(l:List α)(g:Nat→α→Option Int)(hg: ∀i a e,g i a=some e→e≠0)(hl:l.length≤1000000)
    (hF: ∀(i:Nat) a,l[i]? =some a→F (0,(i:Int))=some (.go ((g i a).getD 0,((i+1:Nat):Int)))) (h0: ∀(i:Nat) (e:Int),e≠0→F (e,(i:Int))=some (.out e)) (h1:F (0,(l.length:Int))=some (.out 0)) (e0:Option Int) (he: ∀e,e0=some e→e≠0):
    loop F (e0.getD 0,0)=some ((e0.or (J5 g 0 l)).getD 0):=by
  have key: ∀(r:List α) (i:Nat),l.drop i=r→i≤l.length→loop F (0,(i:Int))=some ((J5 g i r).getD 0):=by
    intro r
    induction r with
    |nil=>
     intro i hi hil
     have:=O3 hi
     obtain rfl:i=l.length:=by omega
     exact D4 h1
    |cons a r ih=>
     intro i hi hil
     have hlt:=N2 hi
     have hs:=hF i a (X0 hi)
     rw [K0 hs]
     unfold J5
     cases h:g i a with
     |some e=>exact D4 (h0 (i+1) e (hg i a e h))
     |none=>exact ih (i+1) (K7 hi) (by omega)
  cases e0 with
  |some e=>exact D4 (h0 0 e (he e rfl))
  |none=>exact key l 0 rfl (by omega)
theorem Qs {m:Map}(B:BearM m):Im m=some (Ta m):=by
  have hb:=B.lanes
  unfold Im Ta
  rw [Qq,lB]
  cases Te m.Version 0 1099511627776
  ·rfl
  ·simp only [bQ,bI,Bool.true_eq_false,if_false]
   by_cases h1:m.Lanes.length=0
   ·rw [bJ h1,h1];rfl
   ·rw [bK h1,show ((m.Lanes.length:Int)==0)=false by simp only [beq_eq_false_iff_ne];omega,bI]
    by_cases h2:12<m.Lanes.length∨12<m.Zones.length∨4<m.Signals.length∨8<m.Works.length
    ·rw [bJ h2,show ((((decide ((m.Lanes.length:Int)>12))||(decide ((m.Zones.length:Int)>12)))||(decide ((m.Signals.length:Int)>4)))||(decide ((m.Works.length:Int)>8)))=true by simp;omega];rfl
    ·rw [bK h2,show ((((decide ((m.Lanes.length:Int)>12))||(decide ((m.Zones.length:Int)>12)))||(decide ((m.Signals.length:Int)>4)))||(decide ((m.Works.length:Int)>8)))=false by simp;omega,bI]
     rw [PL B.toBear]
     cases H:J5 (laneE m.Lanes.length) 0 m.Lanes with
     |some e=>rfl
     |none=>
      have n1: ∀e,J5 (nextE m) 0 m.Lanes=some e→e≠0:=fun e h=>Ar (fun _ _ _=>IH) h
      have n2: ∀e,(J5 (nextE m) 0 m.Lanes).or (J5 (signalE m) 0 m.Signals)=some e→e≠0:=fun e h=>by
        rcases Option.or_eq_some_iff.1 h with h|⟨_,h⟩
        ·exact n1 e h
        ·exact Ar (fun _ _ _=>Uf) h
      have n3: ∀e,((J5 (nextE m) 0 m.Lanes).or (J5 (signalE m) 0 m.Signals)).or (J5 (zoneE m) 0 m.Zones)=some e→e≠0:=fun e h=>by
        rcases Option.or_eq_some_iff.1 h with h|⟨_,h⟩
        ·exact n2 e h
        ·exact Ar (fun _ _ _=>CD) h
      simp only [HZ,thenS,Option.none_or]
      rw [(KT B.toBear H).2,lB]
      rw [aE m.Signals (signalE m) (fun _ _ _=>Uf) B.toBearS.many (fun i a ha=>by
       have hi:=J7 ha
       have hm:=B.toBearS.many
       unfold Fj
       dsimp only
       rw [L9 hi,D5 ha,bM,show ((0:Int)==0)=true from rfl,bH,lB,SG B.toBearS i (lG ha),J1 hi (by omega)];rfl) (fun i e he=>by
       unfold Fj
       dsimp only
       rw [show (e==0)=false by simpa using he,Bool.and_false];rfl) (by unfold Fj;dsimp only;rw [K2];rfl) _ n1,lB]
      rw [aE m.Zones (zoneE m) (fun _ _ _=>CD) B.toBearZ.many (fun i a ha=>by
       have hi:=J7 ha
       have hm:=B.toBearZ.many
       unfold Fi
       dsimp only
       rw [L9 hi,D5 ha,bM,show ((0:Int)==0)=true from rfl,bH,lB,aB B.toBear B.toBearZ ha,J1 hi (by omega)];rfl) (fun i e he=>by
       unfold Fi
       dsimp only
       rw [show (e==0)=false by simpa using he,Bool.and_false];rfl) (by unfold Fi;dsimp only;rw [K2];rfl) _ n2,lB]
      rw [aE m.Works (workE m) (fun _ _ _=>IG) B.toBearW.many (fun i a ha=>by
       have hi:=J7 ha
       have hm:=B.toBearW.many
       unfold Fh
       dsimp only
       rw [L9 hi,D5 ha,bM,show ((0:Int)==0)=true from rfl,bH,lB,aD B.toBear (i:=i) a,J1 hi (by omega)];rfl) (fun i e he=>by
       unfold Fh
       dsimp only
       rw [show (e==0)=false by simpa using he,Bool.and_false];rfl) (by unfold Fh;dsimp only;rw [K2];rfl) _ n3,lB]
      rw [Option.or_assoc,Option.or_assoc]
theorem Md {m:Map}(B:BearM m):Be m=some (Ta m):=by
  have hb:=B.lanes
  have s0:N9 m 0=(Z3 ⟨m⟩).bind fun v2=>cond (v2 !=0) (some (.out (.inr v2))) (some (.go 1)):=rfl
  have s1:N9 m 1=(U3 ⟨m⟩).bind fun v2=>cond (v2 !=0) (some (.out (.inr v2))) (some (.go 2)):=rfl
  have s2:N9 m 2=(T4 ⟨m⟩).bind fun v2=>cond (v2 !=0) (some (.out (.inr v2))) (some (.go 3)):=rfl
  have s3:N9 m 3=(R7 ⟨m⟩).bind fun v2=>cond (v2 !=0) (some (.out (.inr v2))) (some (.go 4)):=rfl
  have s4:N9 m 4=(U4 ⟨m⟩).bind fun v2=>cond (v2 !=0) (some (.out (.inr v2))) (some (.go 5)):=rfl
  have s5:N9 m 5=(U5 ⟨m⟩).bind fun v2=>cond (v2 !=0) (some (.out (.inr v2))) (some (.go 6)):=rfl
  have s6:N9 m 6=some (.out (.inl ())):=rfl
  have stp: ∀(i j:Int) (e:Option Int) (X:Option Int),(∀e',e=some e'→e'≠0)→X=some (e.getD 0)→N9 m i=X.bind (fun v2=>cond (v2 !=0) (some (.out (.inr v2))) (some (.go j)))→loop (N9 m) i=match e with|some e'=>some (.inr e')|none=>loop (N9 m) j:=by
    intro i j e X he hX hs
    subst hX
    rw [lB]at hs
    cases e with
    |none=>exact K0 hs
    |some e'=>
     rw [Option.getD_some,show (e' !=0)=true by simpa using he e' rfl]at hs
     exact D4 hs
  unfold Be Ta
  have hnum:Z3 ⟨m⟩=some ((if Te m.Version 0 1099511627776=false then some 2 else if m.Lanes.length=0 then some 6 else if 12<m.Lanes.length∨12<m.Zones.length∨4<m.Signals.length∨8<m.Works.length then some 8 else none:Option Int).getD 0):=by
    unfold Z3
    dsimp only
    rw [Pq,lB]
    cases Te m.Version 0 1099511627776
    ·rfl
    ·simp only [bQ,bI,Bool.true_eq_false,if_false]
     by_cases h1:m.Lanes.length=0
     ·rw [bJ h1,h1];rfl
     ·rw [bK h1,show ((m.Lanes.length:Int)==0)=false by simp only [beq_eq_false_iff_ne];omega,bI]
      by_cases h2:12<m.Lanes.length∨12<m.Zones.length∨4<m.Signals.length∨8<m.Works.length
      ·rw [bJ h2,show ((((decide ((m.Lanes.length:Int)>12))||(decide ((m.Zones.length:Int)>12)))||(decide ((m.Signals.length:Int)>4)))||(decide ((m.Works.length:Int)>8)))=true by simp;omega];rfl
      ·rw [bK h2,show ((((decide ((m.Lanes.length:Int)>12))||(decide ((m.Zones.length:Int)>12)))||(decide ((m.Signals.length:Int)>4)))||(decide ((m.Works.length:Int)>8)))=false by simp;omega];rfl
  rw [stp 0 1 _ _ (by repeat' split
                      all_goals (intro e' h;first|(cases h;decide)|cases h)) hnum s0]
  by_cases q1:Te m.Version 0 1099511627776=false
  ·rw [bJ q1,bJ q1];rfl
  ·rw [bK q1,bK q1]
   by_cases q2:m.Lanes.length=0
   ·rw [bJ q2,bJ q2];rfl
   ·rw [bK q2,bK q2]
    by_cases q3:12<m.Lanes.length∨12<m.Zones.length∨4<m.Signals.length∨8<m.Works.length
    ·rw [bJ q3,bJ q3];rfl
    ·rw [bK q3,bK q3]
     dsimp only
     rw [stp 1 2 _ _ (fun e' h=>Ar (fun _ _ _=>IA) h) (ZV B.toBear) s1]
     cases H:J5 (laneE m.Lanes.length) 0 m.Lanes with
     |some e=>rfl
     |none=>
      dsimp only
      rw [stp 2 3 _ _ (fun e' h=>Ar (fun _ _ _=>IH) h) (KT B.toBear H).1 s2]
      cases J5 (nextE m) 0 m.Lanes with
      |some e=>rfl
      |none=>
       dsimp only
       rw [stp 3 4 _ _ (fun e' h=>Ar (fun _ _ _=>Uf) h) (SF B.toBear B.toBearS) s3]
       cases J5 (signalE m) 0 m.Signals with
       |some e=>rfl
       |none=>
        dsimp only
        rw [stp 4 5 _ _ (fun e' h=>Ar (fun _ _ _=>CD) h) (aA B.toBear B.toBearZ) s4]
        cases J5 (zoneE m) 0 m.Zones with
        |some e=>rfl
        |none=>
         dsimp only
         rw [stp 5 6 _ _ (fun e' h=>Ar (fun _ _ _=>IG) h) (aC B.toBear B.toBearW) s5]
         cases J5 (workE m) 0 m.Works with
         |some e=>rfl
         |none=>dsimp only;rw [D4 s6];rfl
/-- What a valid map is. -/
structure ValR (m:Map):Prop where
  ver:0≤m.Version∧m.Version≤1099511627776
  pos:0<m.Lanes.length
  lanes:m.Lanes.length≤12
  zones:m.Zones.length≤12
  signals:m.Signals.length≤4
  works:m.Works.length≤8
  laneE:J5 (laneE m.Lanes.length) 0 m.Lanes=none
  nextE:J5 (nextE m) 0 m.Lanes=none
  signalE:J5 (signalE m) 0 m.Signals=none
  zoneE:J5 (zoneE m) 0 m.Zones=none
  workE:J5 (workE m) 0 m.Works=none
theorem VP {α:Type}{g:Nat→α→Option Int}{l:List α}(h: ∀i a e,g i a=some e→e≠0)(h0:(J5 g 0 l).getD 0=0):J5 g 0 l=none:=by
  cases q:J5 g 0 l with
  |none=>rfl
  |some e=>rw [q]at h0;exact absurd h0 (Ar h q)
theorem chkR_zero {m:Map}:Ta m=0↔ValR m:=by
  unfold Ta
  constructor
  ·intro h
   split at h
   ·cases h
   ·rename_i h1
    split at h
    ·cases h
    ·rename_i h2
     split at h
     ·cases h
     ·rename_i h3
      simp only [Te,Bool.not_eq_false,bO,bF]at h1
      have key: ∀{o r:Option Int},(∀e,o=some e→e≠0)→(o.or r).getD 0=0→o=none∧r.getD 0=0:=by
        intro o r ho hr
        cases o with
        |none=>exact ⟨rfl,hr⟩
        |some e=>exact absurd hr (ho e rfl)
      obtain ⟨a1,h⟩:=key (fun e h=>Ar (fun _ _ _=>IA) h) h
      obtain ⟨a2,h⟩:=key (fun e h=>Ar (fun _ _ _=>IH) h) h
      obtain ⟨a3,h⟩:=key (fun e h=>Ar (fun _ _ _=>Uf) h) h
      obtain ⟨a4,h⟩:=key (fun e h=>Ar (fun _ _ _=>CD) h) h
      exact ⟨h1,by omega,by omega,by omega,by omega,by omega,a1,a2,a3,a4,VP (fun _ _ _=>IG) h⟩
  ·rintro ⟨h1,h2,h3,h4,h5,h6,a1,a2,a3,a4,a5⟩
   rw [bK (by simp only [Te,Bool.not_eq_false,bO,bF];exact h1),bK (by omega),bK (by omega),a1,a2,a3,a4,a5];rfl
section
variable {m:Map}
theorem ValR.laneOK (V:ValR m){i:Nat}{l:Lane}(h:m.Lanes[i]? =some l):LaneOK m.Lanes.length i l:=Ws V.laneE h
theorem ValR.next (V:ValR m){i:Nat}{l:Lane}(h:m.Lanes[i]? =some l){k:Int}(hk:k∈l.Next):(i:Int)<k∧k<m.Lanes.length:=by
  have:=Jr (V.laneOK h).next k hk
  omega
end
/-- The lanes in which a lane goes on. -/
def nextOf (m:Map)(a:Nat):List Int:=((m.Lanes[a]?).map (·.Next)).getD []
theorem ValR.nextOf {m:Map}(V:ValR m){a:Nat}{k:Int}(hk:k∈World.nextOf m a):(a:Int)<k∧k<m.Lanes.length:=by
  unfold World.nextOf at hk
  cases h:m.Lanes[a]? with
  |none=>rw [h]at hk;cases hk
  |some l=>rw [h]at hk;exact V.next h hk
def Qt (m:Map)(b:Int):Nat→Nat→Bool
  |0,_=>false
  |n+1,a=>(nextOf m a).any fun k=>k==b||Qt m b n k.toNat
theorem PP {m:Map}(V:ValR m)(b:Int): ∀(n n' a:Nat),m.Lanes.length≤a+n→m.Lanes.length≤a+n'→Qt m b n a=Qt m b n' a:=by
  intro n
  induction n with
  |zero=>
   intro n' a h h'
   have:nextOf m a= []:=by
     unfold nextOf
     rw [lJ (by omega)];rfl
   cases n' with
   |zero=>rfl
   |succ n'=>rw [Qt,Qt,this];rfl
  |succ n ih=>
   intro n' a h h'
   cases n' with
   |zero=>
    have:nextOf m a= []:=by
      unfold nextOf
      rw [lJ (by omega)];rfl
    rw [Qt,Qt,this];rfl
   |succ n'=>
    rw [Qt,Qt]
    rw [Bool.eq_iff_iff,lZ,lZ]
    refine exists_congr fun k=>and_congr_right fun hk=> ?_
    have:=V.nextOf hk
    rw [ih n' k.toNat (by omega) (by omega)]
/-- Does a lane lead to another one? -/
def Qu (m:Map)(a:Nat)(b:Int):Bool:=Qt m b m.Lanes.length a
theorem Xk {m:Map}(V:ValR m)(a:Nat)(b:Int):Qu m a b=(nextOf m a).any fun k=>k==b||Qu m k.toNat b:=by
  unfold Qu
  rw [PP V b _ (m.Lanes.length+1) a (by omega) (by omega),Qt]
/-- What is known of the sets of the lanes from a number on. -/
structure Reach (m:Map)(i:Nat)(l:List Nat):Prop where
  len:l.length=12
  small: ∀(a x:Nat),l[a]? =some x→x<2^32
  zero: ∀(a:Nat),a<i→l[a]? =some 0
  bits: ∀(a x:Nat),i≤a→a<m.Lanes.length→l[a]? =some x→∀b:Nat,x.testBit b=Qu m a (b:Int)
theorem Reach.get {m:Map}{i:Nat}{l:List Nat}(R:Reach m i l){a:Nat}(h:a<12): ∃x,l[a]? =some x∧x<2^32:=by
  have:=R.len
  exact ⟨l[a],lH (by omega),R.small a _ (lH (by omega))⟩
theorem KU {m:Map}(V:ValR m){b:Int}: ∀(n a:Nat),m.Lanes.length≤a+n→Qu m a b=true→(a:Int)<b∧b<m.Lanes.length
  |0,a,hn,h=>by
   rw [Xk V]at h
   have:nextOf m a= []:=by
     unfold nextOf
     rw [lJ (by omega)];rfl
   rw [this]at h
   cases h
  |n+1,a,hn,h=>by
   rw [Xk V,lZ]at h
   obtain ⟨k,hk,h⟩:=h
   have:=V.nextOf hk
   rcases bP _ _▸h with h|h
   ·have:=eq_of_beq h;omega
   ·have:=KU V n k.toNat (by omega) h;omega
theorem aF {m:Map}(V:ValR m){a:Nat}{b:Int}(h:Qu m a b=true):(a:Int)<b∧b<m.Lanes.length:=KU V m.Lanes.length a (by omega) h
theorem EF {m:Map}(V:ValR m){b:Nat}{c:Int}(h2:Qu m b c=true): ∀(n a:Nat),m.Lanes.length≤a+n→Qu m a (b:Int)=true→Qu m a c=true
  |0,a,hn,h=>by have:=aF V h;omega
  |n+1,a,hn,h=>by
   rw [Xk V,lZ]at h ⊢
   obtain ⟨k,hk,h⟩:=h
   have:=V.nextOf hk
   refine ⟨k,hk,?_⟩
   rcases bP _ _▸h with h|h
   ·have e:=eq_of_beq h
    subst e
    rw [bY,h2,Bool.or_true]
   ·rw [EF V h2 n k.toNat (by omega) h,Bool.or_true]
/-! ### Is a lane there? -/
noncomputable def SH (m:Map)(k:Int):Bool:=(decide (k≥0)&&decide (k<m.Lanes.length))&& (Ta m==0)
theorem isM_true {m:Map}{k:Int}:SH m k=true↔0≤k∧k<m.Lanes.length∧ValR m:=by
  unfold SH
  rw [bO,bO,bU,chkR_zero]
  simp only [bF,and_assoc,ge_iff_le]
theorem EG {m:Map}(B:BearM m)(k:Int):Ke m k=some (SH m k):=by
  unfold Ke SH
  rw [Md B]
  cases (decide (k≥0)&&decide (k< (m.Lanes.length:Int)))<;>rfl
theorem Yp {m:Map}(B:BearM m)(k:Int):Mt m k=some (SH m k):=by
  unfold Mt SH
  rw [Qs B]
  cases (decide (k≥0)&&decide (k< (m.Lanes.length:Int)))<;>rfl
theorem Uv {m:Map}(B:BearM m){k:Int}(h0:0≤k)(h1:k<m.Lanes.length):Ji m k=some (P7 m k):=by
  obtain ⟨l,e1,e2⟩:=IF B.toBear h0 h1
  unfold Ji
  rw [e1,lB,e2];rfl
noncomputable def Ru (m:Map)(k:Int):Int:=if SH m k then P7 m k else 0
theorem FG {m:Map}(B:BearM m)(k:Int):Az m k=some (Ru m k):=by
  unfold Az Ru
  rw [EG B,lB]
  cases h:SH m k
  ·rfl
  ·have:=isM_true.1 h
   rw [bJ rfl,bQ,bI,FP B.toBear this.1 this.2.1];rfl
theorem FH {m:Map}(B:BearM m)(k:Int):Lu m k=some (Ru m k):=by
  unfold Lu Ru
  rw [Yp B,lB]
  cases h:SH m k
  ·rfl
  ·have:=isM_true.1 h
   rw [bJ rfl,bQ,bI,Uv B this.1 this.2.1];rfl
theorem Wu (l:List Int)(hl:l.length≤1000000)(k:Int):M7 l k=some (l.contains k):=by
  unfold M7 T0
  rw [Qr l (fun x=>k==x) (by omega) (fun i a h=>by
   have hi:=J7 h
   unfold X8
   rw [L9 hi,D5 h,bH,lB]
   cases k==a<;>rfl) (by unfold X8;rw [K2];rfl)]
  rw [lB,Sz,List.contains_eq_any_beq]
theorem SI (l:List Int)(hl:l.length≤1000000)(k:Int):Mr l k=some (l.contains k):=by
  unfold Mr
  rw [IE l (fun x=>x==k) true (fun i a h=>by
   have hi:=J7 h
   unfold Ls
   rw [L9 hi,D5 h,bH,lB,J1 hi (by omega)]
   cases a==k<;>rfl) (by unfold Ls;rw [K2];rfl)]
  rw [List.contains_eq_any_beq,show (fun x=>x==k)=(fun x=>k==x) from funext fun x=>by rw [Bool.beq_comm]]
  cases l.any fun x=>k==x<;>rfl
/-- What comes before a lane. -/
def Bp (m:Map)(k:Int):List Int:=Fw (fun i (l:Lane)=>if l.Next.contains k then some (i:Int)else none) 0 m.Lanes
theorem VQ {m:Map}(B:BearM m)(k:Int):Ee m k=some (Bp m k):=by
  unfold Ee Bp
  have hb:=B.lanes
  rw [DM m.Lanes (fun i (l:Lane)=>if l.Next.contains k then some (i:Int)else none) id (fun i l s h hs=>by
   have hi:=J7 h
   unfold Aa
   dsimp only
   rw [L9 hi,D5 h,bH,lB,Wu _ (B.toBear.pts l (lG h)).2,lB,Je (by simp;omega),J1 hi (by omega)]
   cases l.Next.contains k<;>rfl) (fun s=>by unfold Aa;rw [K2];rfl)]
  rfl
theorem II {m:Map}(B:BearM m)(k:Int):Jh m k=some (Bp m k):=by
  unfold Jh Bp
  have hb:=B.lanes
  rw [DM m.Lanes (fun i (l:Lane)=>if l.Next.contains k then some (i:Int)else none) id (fun i l s h hs=>by
   have hi:=J7 h
   unfold He
   dsimp only
   rw [L9 hi,D5 h,bH,lB,SI _ (B.toBear.pts l (lG h)).2,lB,Je (by simp;omega),J1 hi (by omega)]
   cases l.Next.contains k<;>rfl) (fun s=>by unfold He;rw [K2];rfl)]
  rfl
def S4 (m:Map):List Int:=Fw (fun i (_:Lane)=>if (Bp m (i:Int)).length=0 then some (i:Int)else none) 0 m.Lanes
theorem PQ {m:Map}(B:BearM m):Kc m=some (S4 m):=by
  unfold Kc S4
  have hb:=B.lanes
  rw [DM m.Lanes (fun i (_:Lane)=>if (Bp m (i:Int)).length=0 then some (i:Int)else none) id (fun i l s h hs=>by
   have hi:=J7 h
   unfold Fq
   dsimp only
   rw [L9 hi,bH,II B,lB,Je (by simp;omega),J1 hi (by omega)]
   by_cases q:(Bp m (i:Int)).length=0
   ·rw [bJ q,q];rfl
   ·rw [bK q,show (((Bp m (i:Int)).length:Int)==0)=false by simp only [beq_eq_false_iff_ne];omega];rfl) (fun s=>by unfold Fq;rw [K2];rfl)]
  rfl
def Lc (z:Zone)(k:Int):Part×Bool:=match z.Parts.find? (fun p=>p.Lane_==k)with|some p=>(p,true)|none=>(⟨0,0,0,0⟩,false)
theorem eF {z:Zone}(hl:z.Parts.length≤1000000)(k:Int):Iw z k=some (Lc z k):=by
  unfold Iw J4 Lc
  rw [Qr z.Parts (fun p=>p.Lane_==k) (by omega) (fun i a h=>by
   have hi:=J7 h
   unfold M0 Lx
   rw [L9 hi,D5 h,bH,lB,lB]
   cases a.Lane_==k<;>rfl) (by unfold M0;rw [K2];rfl),lB]
  unfold DL
  cases h:z.Parts.findIdx? (fun p=>p.Lane_==k)with
  |none=>
   have:z.Parts.find? (fun p=>p.Lane_==k)=none:=by
     rw [List.find?_eq_none]
     have:=List.findIdx?_eq_none_iff.1 h
     intro x hx;simpa using this x hx
   rw [this];rfl
  |some i=>
   obtain ⟨hi,h1,h2⟩:=List.findIdx?_eq_some_iff_getElem.1 h
   have:z.Parts.find? (fun p=>p.Lane_==k)=some z.Parts[i]:=by
     rw [List.find?_eq_some_iff_getElem]
     exact ⟨h1,i,hi,rfl,fun j hj=>by simpa using h2 j hj⟩
   rw [this]
   dsimp only
   rw [show decide ((i:Int)<0)=false from bE (by omega),bI,ZC hi];rfl
structure ZoneOK (m:Map)(z:Zone):Prop where
  two:2≤z.Parts.length
  six:z.Parts.length≤6
  sig:0≤z.Signal_∧z.Signal_≤m.Signals.length
  rise:Bo m.Lanes.length 0 (z.Parts.map (·.Lane_))=true
  part: ∀p∈z.Parts,0≤p.From∧p.From<p.To∧p.To≤P7 m p.Lane_∧0≤p.Rank∧p.Rank≤100
theorem SJ {m:Map}{i:Nat}{z:Zone}(h:zoneE m i z=none):ZoneOK m z:=by
  unfold zoneE at h
  split at h
  ·cases h
  ·rename_i h1
   split at h
   ·cases h
   ·rename_i h2
    split at h
    ·cases h
    ·rename_i h3
     split at h
     ·cases h
     ·rename_i h4
      split at h
      ·cases h
      ·rename_i h5
       refine ⟨by omega,by omega,by omega,by simpa using h4,fun p hp=> ?_⟩
       have:=List.any_eq_false.1 (bT.2 h5) p hp
       simp only [Rs,bP,bF,not_or,Int.not_lt,Int.not_le,ge_iff_le,gt_iff_lt]at this
       omega
theorem ValR.zoneOK {m:Map}(V:ValR m){z:Zone}(hz:z∈m.Zones):ZoneOK m z:=by
  obtain ⟨i,hi,rfl⟩:=List.mem_iff_getElem.1 hz
  have:=firstE_none.1 V.zoneE i _ (lH hi)
  exact SJ this
theorem ZoneOK.lane {m:Map}{z:Zone}(O:ZoneOK m z){p:Part}(hp:p∈z.Parts):0≤p.Lane_∧p.Lane_<m.Lanes.length:=Jr O.rise p.Lane_ (List.mem_map.2 ⟨p,hp,rfl⟩)
theorem TU {m:Map}{k:Int}(h0:0≤k)(h1:k<m.Zones.length): ∃z,m.Zones[k.toNat]? =some z∧C3 m.Zones k=some z:=by
  have hlt:k.toNat<m.Zones.length:=by omega
  refine ⟨m.Zones[k.toNat],lH hlt,?_⟩
  unfold C3
  rw [bJ h0,lH hlt]
theorem aG:Ja=some true:=law04_awake_le _ (by decide+kernel)
theorem Fe (n:Int){m:Int}(hm:0<m):0≤n % m∧n % m<m:=⟨wI n (by omega),wJ n hm⟩
theorem DN {n m:Int}(hm:0<m):n % m=if n.tmod m<0 then n.tmod m+m else n.tmod m:=by
  have a:=wI n (show m≠0 by omega)
  have b:=wJ n hm
  rw [Int.tmod_eq_emod]
  by_cases q:0≤n∨m ∣ n
  ·rw [bJ q,bK (by omega)];omega
  ·rw [bK q]
   have:n % m≠0:=fun e=>q (.inr (Int.dvd_of_emod_eq_zero e))
   rw [bJ (by omega)];omega
theorem Qv {n m:Int}(hm:0<m)(hm2:m≤9223372036854775807):Pd n m=some (n % m):=by
  have h1:=DN (n:=n) hm
  have a:=Fe n hm
  unfold Pd Re
  rw [bK (by omega),lB]
  by_cases q:n.tmod m<0
  ·rw [bJ q]at h1
   rw [bD q,bH,I3 (by omega),← h1]
  ·rw [bK q]at h1
   rw [bE q,bI,← h1]
theorem Ug {n m:Int}(hm:0<m)(hm2:m≤9223372036854775807):Mx n m=some (n % m):=by
  have h1:=DN (n:=n) hm
  have a:=Fe n hm
  unfold Mx Re
  rw [bK (by omega),lB]
  by_cases q:n.tmod m<0
  ·rw [bJ q]at h1
   rw [bD q,bH,I3 (by omega),← h1]
  ·rw [bK q]at h1
   rw [bE q,bI,← h1]
def MW (kind lim:Int)(next:List Int)(a b c d:Int):Lane:=⟨kind,⟨[⟨a,b⟩,⟨c,d⟩]⟩,if kind=3 then 500 else 1500,lim,next⟩
theorem eG (kind lim:Int)(next:List Int)(a b c d:Int):T5 kind lim next [a,b,c,d]=some (MW kind lim next a b c d):=by
  unfold T5 MW
  rw [K0 (s':=(2,[⟨a,b⟩])) rfl,K0 (s':=(4,[⟨a,b⟩,⟨c,d⟩])) rfl,D4 (t:= [⟨a,b⟩,⟨c,d⟩]) rfl,lB]
  by_cases h:kind=3
  ·rw [bJ h,h];rfl
  ·rw [bK h,show (kind==3)=false by simpa using h];rfl
def iG (off a b:Int):Signal:=⟨off,[⟨12,[a]⟩,⟨5,[]⟩,⟨9,[b]⟩,⟨4,[]⟩]⟩
/-- The numbers of which a map of the kit is made. -/
structure Par where
  lim:Int
  r:Int
  o:Int
  o':Int
  ver:Int
  wk:List Work
structure ParOK (p:Par):Prop where
  lim:p.lim=1500∨p.lim=600∨p.lim=1000∨p.lim=300
  r:p.r=0∨p.r=1
  o:0≤p.o∧p.o<31
  o':0≤p.o'∧p.o'<31
  ver:0≤p.ver∧p.ver<5
  wk:p.wk= []∨∃b l,0≤b∧b<40∧0≤l∧l≤400∧p.wk= [⟨0,10000,15000,b,b+20,l⟩]
def Ku (k:Nat)(lim:Int):List Lane:=match k with
  |0=> [MW 1 lim [] 0 0 60000 0]
  |1|2=> [MW 1 lim [] 0 0 50000 0,MW 1 1500 [] 30000 (-20000) 30000 20000]
  |3=> [MW 1 lim [1,2] 0 0 30000 0,MW 1 1500 [] 30000 0 60000 0,MW 1 800 [] 30000 0 54000 10000]
  |4=> [MW 1 lim [2] 0 0 30000 0,MW 1 1500 [2] 6000 (-10000) 30000 0,MW 1 1500 [] 30000 0 60000 0]
  |5=> [MW 1 lim [1] 0 0 20000 0,MW 1 lim [] 20000 0 50000 0,MW 3 200 [] 35000 (-8000) 35000 8000]
  |_=> [MW 1 lim [1,2] 0 0 20000 0,MW 1 1500 [] 20000 0 50000 0,MW 1 1000 [] 20000 0 44000 10000,MW 2 700 [] 36000 (-12000) 36000 18000]
def Zt (k:Nat)(r:Int):List Zone:=match k with
  |1=> [⟨[⟨0,28000,32000,r⟩,⟨1,18000,22000,2 - 2*r⟩],0⟩]
  |2=> [⟨[⟨0,28000,32000,r⟩,⟨1,18000,22000,2 - 2*r⟩],1⟩]
  |4=> [⟨[⟨0,25000,30000,1⟩,⟨1,20000,26000,0⟩,⟨2,0,5000,0⟩],0⟩]
  |5=> [⟨[⟨1,14000,16000,0⟩,⟨2,6000,10000,3⟩],0⟩]
  |6=> [⟨[⟨1,14000,18000,1⟩,⟨3,10000,14000,0⟩],0⟩,⟨[⟨2,14000,21000,1⟩,⟨3,14500,23000,0⟩],0⟩]
  |7=> [⟨[⟨1,14000,18000,1⟩,⟨3,10000,14000,0⟩],1⟩,⟨[⟨2,14000,21000,1⟩,⟨3,14500,23000,0⟩],2⟩]
  |_=> []
def Tb (k:Nat)(o o':Int):List Signal:=match k with
  |2=> [iG o 0 1]
  |7=> [iG o 1 3,iG o' 2 3]
  |_=> []
def CE (k:Nat)(p:Par):Map:=⟨p.ver,Ku k p.lim,Zt k p.r,Tb k p.o p.o',p.wk⟩
theorem SK (n:Int): ∃k p,k<8∧ParOK p∧Xi n=some (CE k p):=by
  obtain ⟨h0,h1⟩:=Fe n (show (0:Int)<16777216 by decide)
  unfold Xi
  rw [Qv (by decide) (by decide),lB]
  generalize n % 16777216=v at h0 h1
  have t: ∀m:Int,0<m→v.tdiv m=v / m:=fun m hm=>by rw [wG h0]
  have u: ∀x m:Int,0≤x→x.tmod m=x % m:=fun x m hx=>by rw [wH hx]
  have d: ∀m:Int,0<m→0≤v / m∧v / m<16777216:=fun m hm=>⟨Int.ediv_nonneg h0 (by omega),Int.lt_of_le_of_lt (Int.ediv_le_self m h0) h1⟩
  have W: ∀m:Int,0<m→D9 (v / m)=v / m:=fun m hm=>I3 (by have:=d m hm;omega)
  rw [t 7 (by decide),t 28 (by decide),t 56 (by decide),t 1736 (by decide),t 5208 (by decide),t 208320 (by decide)]
  rw [W 7 (by decide),W 28 (by decide),W 56 (by decide),W 1736 (by decide),W 5208 (by decide),W 208320 (by decide)]
  rw [u (v / 7) _ (d 7 (by decide)).1,u (v / 28) 2 (d 28 (by decide)).1,u (v / 28) 31 (d 28 (by decide)).1,u (v / 56) 31 (d 56 (by decide)).1,u (v / 56) 17 (d 56 (by decide)).1,u (v / 1736) _ (d 1736 (by decide)).1,u (v / 5208) _ (d 5208 (by decide)).1,u (v / 208320) _ (d 208320 (by decide)).1,u v _ h0,u (v / 28) 5 (d 28 (by decide)).1]
  have b1:=Fe (v / 7) (show (0:Int)<4 by decide)
  have b2:=Fe (v / 28) (show (0:Int)<2 by decide)
  have b3:=Fe (v / 28) (show (0:Int)<31 by decide)
  have b4:=Fe (v / 56) (show (0:Int)<31 by decide)
  have b5:=Fe (v / 56) (show (0:Int)<17 by decide)
  have b6:=Fe (v / 5208) (show (0:Int)<40 by decide)
  have b7:=Fe (v / 208320) (show (0:Int)<3 by decide)
  have b8:=Fe v (show (0:Int)<7 by decide)
  have b9:=Fe (v / 28) (show (0:Int)<5 by decide)
  generalize v / 7 % 4=q1 at b1
  generalize v / 28 % 2=q2 at b2
  generalize v / 28 % 31=q3 at b3
  generalize v / 56 % 31=q4 at b4
  generalize v / 56 % 17=q5 at b5
  generalize v / 5208 % 40=q6 at b6
  generalize v / 208320 % 3=q7 at b7
  generalize v % 7=q8 at b8
  generalize v / 28 % 5=q9 at b9
  have e1: ∃lim:Int,C3 ([1500,600,1000,300]:List Int) q1=some lim∧(lim=1500∨lim=600∨lim=1000∨lim=300):=by
    rcases (show q1=0∨q1=1∨q1=2∨q1=3 by omega)with rfl|rfl|rfl|rfl
    ·exact ⟨1500,rfl,by decide⟩
    ·exact ⟨600,rfl,by decide⟩
    ·exact ⟨1000,rfl,by decide⟩
    ·exact ⟨300,rfl,by decide⟩
  obtain ⟨lim,e1,hlim⟩:=e1
  rw [e1,lB]
  have ew: ∀(L:List Lane) (Z:List Zone) (S:List Signal),∃wk,(wk= []∨∃b l,0≤b∧b<40∧0≤l∧l≤400∧wk= [⟨0,10000,15000,b,b+20,l⟩])∧
   (cond (v / 1736 % 3==1) (some (Map.mk q9 L Z S [(Work.mk 0 10000 15000 q6 (D9 (q6+20)) (D9 (q7*200)))])) (some (Map.mk q9 L Z S [])))=some ⟨q9,L,Z,S,wk⟩:=by
    intro L Z S
    cases v / 1736 % 3==1
    ·exact ⟨[], .inl rfl,rfl⟩
    ·exact ⟨[⟨0,10000,15000,q6,q6+20,q7*200⟩], .inr ⟨q6,q7*200,by omega,by omega,by omega,by omega,rfl⟩,by rw [I3 (by omega),I3 (by omega)];rfl⟩
  have er:D9 (2 - D9 (2*q2))=2 - 2*q2:=by rw [I3 (n:=2*q2) (by omega),I3 (by omega)]
  rw [er]
  simp only [eG,lB]
  have fin: ∀(k:Nat) (o o':Int) (L:List Lane) (Z:List Zone) (S:List Signal),k<8→0≤o∧o<31→0≤o'∧o'<31→L=Ku k lim→Z=Zt k q2→S=Tb k o o'→∃k p,k<8∧ParOK p∧(cond (v / 1736 % 3==1) (some (Map.mk q9 L Z S [(Work.mk 0 10000 15000 q6 (D9 (q6+20)) (D9 (q7*200)))])) (some (Map.mk q9 L Z S [])))=some (CE k p):=by
    intro k o o' L Z S hk h1 h2 e1 e2 e3
    obtain ⟨wk,w1,w2⟩:=ew L Z S
    subst e1 e2 e3
    exact ⟨k,⟨lim,q2,o,o',q9,wk⟩,hk,⟨hlim,by dsimp only;omega,h1,h2,b9,w1⟩,w2⟩
  rcases (show q8=0∨q8=1∨q8=2∨q8=3∨q8=4∨q8=5∨q8=6 by omega)with rfl|rfl|rfl|rfl|rfl|rfl|rfl
  ·exact fin 0 0 0 _ _ _ (by decide) (by decide) (by decide) rfl rfl rfl
  ·exact fin 1 0 0 _ _ _ (by decide) (by decide) (by decide) rfl rfl rfl
  ·exact fin 2 q3 0 _ _ _ (by decide) b3 (by decide) rfl rfl rfl
  ·exact fin 3 0 0 _ _ _ (by decide) (by decide) (by decide) rfl rfl rfl
  ·exact fin 4 0 0 _ _ _ (by decide) (by decide) (by decide) rfl rfl rfl
  ·exact fin 5 0 0 _ _ _ (by decide) (by decide) (by decide) rfl rfl rfl
  ·rcases (show q2=0∨q2=1 by omega)with rfl|rfl
   ·exact fin 6 0 0 _ _ _ (by decide) (by decide) (by decide) rfl rfl rfl
   ·exact fin 7 q4 q5 _ _ _ (by decide) b4 (by omega) rfl rfl rfl
theorem VR:((List.range 8).all fun k=>([1500,600,1000,300]:List Int).all fun lim=>([0,1]:List Int).all fun r=>(@Be V0) (CE k ⟨lim,r,0,0,0,[]⟩)==some 0)=true:=by decide+kernel
theorem PR (k:Nat)(lim:Int):(Ku k lim).length≤4∧∀l∈Ku k lim,l.Curve_.Pts.length=2∧l.Next.length≤2:=by
  unfold Ku
  split<;>simp [MW]
theorem EH (k:Nat)(r:Int):(Zt k r).length≤2∧∀z∈Zt k r,z.Parts.length≤3:=by
  unfold Zt
  split<;>simp
theorem SL (k:Nat)(o o':Int):(Tb k o o').length≤2∧∀s∈Tb k o o',s.Phases.length=4∧∀p∈s.Phases,p.Green.length≤1:=by
  unfold Tb
  split<;>simp [iG]
theorem TV {m:Map}{k:Nat}{lim r o o':Int}(h1:m.Lanes=Ku k lim)(h2:m.Zones=Zt k r)(h3:m.Signals=Tb k o o')(h4:m.Works.length≤1):BearM m:=by
  obtain ⟨a1,a2⟩:=PR k lim
  obtain ⟨b1,b2⟩:=EH k r
  obtain ⟨c1,c2⟩:=SL k o o'
  refine ⟨⟨by rw [h1];omega,fun l hl=> ?_⟩,⟨by rw [h3];omega,fun s hs=>⟨?_,fun p hp=> ?_⟩⟩,⟨by rw [h2];omega,fun z hz=> ?_⟩,⟨by omega⟩⟩
  ·rw [h1]at hl;have:=a2 l hl;omega
  ·rw [h3]at hs;have:=(c2 s hs).1;omega
  ·rw [h3]at hs;have:=(c2 s hs).2 p hp;omega
  ·rw [h2]at hz;have:=b2 z hz;omega
theorem ParOK.wk1 {p:Par}(h:ParOK p):p.wk.length≤1:=by
  rcases h.wk with e|⟨b,l,_,_,_,_,e⟩<;>rw [e]<;>simp
theorem aH {k:Nat}{p:Par}(h:ParOK p):BearM (CE k p):=TV rfl rfl rfl h.wk1
theorem jB {k:Nat}{p:Par}(hk:k<8)(h:ParOK p):ValR (CE k ⟨p.lim,p.r,0,0,0,[]⟩):=by
  have h1:=lY.1 VR k (List.mem_range.2 hk)
  have h2:=lY.1 h1 p.lim (by have:=h.lim;simp;omega)
  have h3:=lY.1 h2 p.r (by have:=h.r;simp;omega)
  have h4:=roads_Check_le _ _ (eq_of_beq h3)
  have h5:=Md (m:=CE k ⟨p.lim,p.r,0,0,0,[]⟩) (TV rfl rfl rfl (wB 1))
  rw [h4]at h5
  exact chkR_zero.1 (lD h5).symm
/-- Another version, other offsets, other works. -/
theorem ValR.change {L:List Lane}{Z:List Zone}{S S':List Signal}{W W':List Work}{v v':Int}(V:ValR ⟨v,L,Z,S,W⟩)(hv:0≤v'∧v'≤1099511627776)(hl:S'.length=S.length)(hs: ∀s∈S',World.signalE ⟨v,L,Z,S,W⟩ 0 s=none)(hw:W'.length≤8)(hw': ∀w∈W',World.workE ⟨v,L,Z,S,W⟩ 0 w=none):ValR ⟨v',L,Z,S',W'⟩:=by
  refine ⟨hv,V.pos,V.lanes,V.zones,by show S'.length≤4;rw [hl];exact V.signals,hw,V.laneE,V.nextE,?_,?_,?_⟩
  ·rw [firstE_none]
   intro j a ha
   exact hs a (lG ha)
  ·have:=V.zoneE
   rw [firstE_none]at this ⊢
   intro j a ha
   have:=this j a ha
   unfold World.zoneE at this ⊢
   dsimp only at this ⊢
   rw [hl]
   exact this
  ·rw [firstE_none]
   intro j a ha
   exact hw' a (lG ha)
theorem VS (k:Nat)(o o' a a':Int):(Tb k o o').length=(Tb k a a').length:=by unfold Tb;split<;>rfl
theorem aI {k:Nat}{o o':Int}(h:0≤o∧o<31)(h':0≤o'∧o'<31){m:Map}(hm:m.Lanes.length=(Ku k 0).length): ∀s∈Tb k o o',signalE m 0 s=none:=by
  have key: ∀(off a b:Int),0≤off∧off<31→0≤a∧a<m.Lanes.length→0≤b∧b<m.Lanes.length→signalE m 0 (iG off a b)=none:=by
    intro off a b h1 h2 h3
    unfold signalE iG
    simp only [lL,lN]
    rw [bK (by decide),bK (by decide),bK (by simp [Te];omega),bK (by simp [Te]),bK]
    simp only [List.any_cons,List.any_nil,Bo,Bool.and_true,Bool.or_false,bQ,bS,bP,Bool.not_eq_true',not_or,Bool.not_eq_false,bO,bF]
    omega
  intro s hs
  unfold Tb at hs
  split at hs
  ·rw [show (Ku 2 0).length=2 from rfl]at hm
   simp only [bC]at hs
   subst hs
   exact key _ _ _ h (by omega) (by omega)
  ·rw [show (Ku 7 0).length=4 from rfl]at hm
   simp only [lU,List.not_mem_nil,or_false]at hs
   rcases hs with rfl|rfl
   ·exact key _ _ _ h (by omega) (by omega)
   ·exact key _ _ _ h' (by omega) (by omega)
  ·cases hs
theorem SM (k:Nat)(lim:Int):(Ku k lim).length=(Ku k 0).length:=by unfold Ku;split<;>rfl
theorem Xl (c:Int)(h:(@Cf V0) ⟨[⟨0,0⟩,⟨c,0⟩]⟩=some c):Pf ⟨[⟨0,0⟩,⟨c,0⟩]⟩=c:=by
  have h1:=curve_Length_le _ _ h
  rw [Ut _ (by simp)]at h1
  exact lD h1
/-- The first lane of a map of the kit: a road, long enough. -/
theorem EI (k:Nat)(lim:Int): ∃l,(Ku k lim)[0]? =some l∧l.Kind=1∧l.Limit=lim∧20000≤Pf l.Curve_∧Pf l.Curve_≤60000:=by
  have e6:=Xl 60000 (by decide+kernel)
  have e5:=Xl 50000 (by decide+kernel)
  have e3:=Xl 30000 (by decide+kernel)
  have e2:=Xl 20000 (by decide+kernel)
  unfold Ku
  split
  ·exact ⟨_,rfl,rfl,rfl,by show 20000≤Pf ⟨[⟨0,0⟩,⟨60000,0⟩]⟩∧Pf ⟨[⟨0,0⟩,⟨60000,0⟩]⟩≤60000;rw [e6];decide⟩
  ·exact ⟨_,rfl,rfl,rfl,by show 20000≤Pf ⟨[⟨0,0⟩,⟨50000,0⟩]⟩∧Pf ⟨[⟨0,0⟩,⟨50000,0⟩]⟩≤60000;rw [e5];decide⟩
  ·exact ⟨_,rfl,rfl,rfl,by show 20000≤Pf ⟨[⟨0,0⟩,⟨50000,0⟩]⟩∧Pf ⟨[⟨0,0⟩,⟨50000,0⟩]⟩≤60000;rw [e5];decide⟩
  ·exact ⟨_,rfl,rfl,rfl,by show 20000≤Pf ⟨[⟨0,0⟩,⟨30000,0⟩]⟩∧Pf ⟨[⟨0,0⟩,⟨30000,0⟩]⟩≤60000;rw [e3];decide⟩
  ·exact ⟨_,rfl,rfl,rfl,by show 20000≤Pf ⟨[⟨0,0⟩,⟨30000,0⟩]⟩∧Pf ⟨[⟨0,0⟩,⟨30000,0⟩]⟩≤60000;rw [e3];decide⟩
  ·exact ⟨_,rfl,rfl,rfl,by show 20000≤Pf ⟨[⟨0,0⟩,⟨20000,0⟩]⟩∧Pf ⟨[⟨0,0⟩,⟨20000,0⟩]⟩≤60000;rw [e2];decide⟩
  ·exact ⟨_,rfl,rfl,rfl,by show 20000≤Pf ⟨[⟨0,0⟩,⟨20000,0⟩]⟩∧Pf ⟨[⟨0,0⟩,⟨20000,0⟩]⟩≤60000;rw [e2];decide⟩
theorem jC {m:Map}{l:Lane}(hl:m.Lanes[0]? =some l)(hk:l.Kind=1){w:Work}(h:w.Lane_=0∧0≤w.From∧w.From≤w.To∧w.To≤Pf l.Curve_∧0≤w.Begin∧w.Begin<w.End∧w.End≤1099511627776∧0≤w.Limit∧w.Limit≤2000):workE m 0 w=none:=by
  obtain ⟨h1,h2,h3,h4,h5,h6,h7,h8,h9⟩:=h
  have hlen:=J7 hl
  unfold workE P7
  rw [h1,show ((0:Int).toNat)=0 from rfl,hl,bK (by omega),bK]
  simp only [lF,Option.getD_some,Option.get!_some,hk,Te,Fv,if_true,bP,bF,Bool.not_eq_true',not_or,Bool.not_eq_false,bO]
  omega
/-- A map of the kit is valid, with such works. -/
theorem aJ {k:Nat}{p:Par}(hk:k<8)(h:ParOK p){W:List Work}(hw:W.length≤8)(hW: ∀w∈W,w.Lane_=0∧0≤w.From∧w.From≤w.To∧w.To≤P7 (CE k p) 0∧0≤w.Begin∧w.Begin<w.End∧w.End≤1099511627776∧0≤w.Limit∧w.Limit≤2000):ValR ⟨p.ver,Ku k p.lim,Zt k p.r,Tb k p.o p.o',W⟩:=by
  have V:=jB hk h
  obtain ⟨l,l1,l2,l3,l4,l5⟩:=EI k p.lim
  have hv:=h.ver
  refine ValR.change (v:=0) (S:=Tb k 0 0) (W:= []) V (by omega) (VS k _ _ _ _) (fun s hs=>aI h.o h.o' (by exact SM k p.lim) s hs) hw (fun w hwm=> ?_)
  obtain ⟨a1,a2,a3,a4,a5,a6,a7,a8,a9⟩:=hW w hwm
  refine jC (l:=l) l1 l2 ⟨a1,a2,a3,?_,a5,a6,a7,a8,a9⟩
  have:P7 (CE k p) 0=Pf l.Curve_:=by
    unfold P7 CE
    dsimp only
    rw [show ((0:Int).toNat)=0 from rfl,l1];rfl
  omega
theorem VT (k:Nat)(p:Par):20000≤P7 (CE k p) 0∧P7 (CE k p) 0≤60000:=by
  obtain ⟨l,l1,l2,l3,l4,l5⟩:=EI k p.lim
  unfold P7 CE
  dsimp only
  rw [show ((0:Int).toNat)=0 from rfl,l1]
  exact ⟨l4,l5⟩
theorem eH {k:Nat}{p:Par}(hk:k<8)(h:ParOK p):ValR (CE k p):=by
  have hl:=VT k p
  refine aJ hk h (Nat.le_trans h.wk1 (by decide)) (fun w hw=> ?_)
  rcases h.wk with e|⟨b,l,h1,h2,h3,h4,e⟩
  ·rw [e]at hw;cases hw
  ·rw [e]at hw
   simp only [bC]at hw
   subst hw
   dsimp only
   omega
/-! ### Limits -/
end Go.Abs.World
namespace Go.Abs
theorem Dr {α β:Type}{g:Nat→α→Option β}{x:β}: ∀{l:List α} {i:Nat},x∈Fw g i l↔∃j a,l[j]? =some a∧g (i+j) a=some x
  | [],i=>by simp [Fw]
  |a::r,i=>by
   unfold Fw
   have ih:=Dr (g:=g) (x:=x) (l:=r) (i:=i+1)
   have sh:(∃j b,(a::r)[j]? =some b∧g (i+j) b=some x)↔g i a=some x∨∃j b,r[j]? =some b∧g (i+1+j) b=some x:=by
     constructor
     ·rintro ⟨j,b,h1,h2⟩
      cases j with
      |zero=>simp at h1;subst h1;exact .inl h2
      |succ j=>exact .inr ⟨j,b,by simpa using h1,by rwa [show i+1+j=i+ (j+1) by omega]⟩
     ·rintro (h|⟨j,b,h1,h2⟩)
      ·exact ⟨0,a,rfl,h⟩
      ·exact ⟨j+1,b,by simpa using h1,by rwa [show i+ (j+1)=i+1+j by omega]⟩
   rw [sh,← ih]
   cases h:g i a with
   |none=>simp
   |some b=>simp [eq_comm]
end Go.Abs
namespace Go.Abs.World
open Go Go.Abs
theorem mem_before {m:Map}{k x:Int}:x∈Bp m k↔∃(i:Nat) (l:Lane),m.Lanes[i]? =some l∧k∈l.Next∧x=(i:Int):=by
  unfold Bp
  rw [Dr]
  refine exists_congr fun i=>exists_congr fun l=>and_congr_right fun _=> ?_
  rw [wD]
  by_cases h:l.Next.contains k=true
  ·rw [bJ h]
   simp only [Option.some.injEq]
   exact ⟨fun e=>⟨by simpa using h,e.symm⟩,fun e=>e.2.symm⟩
  ·rw [bK h]
   simp only [reduceCtorEq,false_iff,not_and]
   intro hk
   exact absurd (by simpa using hk) h
theorem mem_origins {m:Map}{x:Int}:x∈S4 m↔0≤x∧x<m.Lanes.length∧Bp m x= []:=by
  unfold S4
  rw [Dr]
  constructor
  ·rintro ⟨i,l,h1,h2⟩
   have:=J7 h1
   split at h2
   ·rename_i h
    cases h2
    rw [wD]at h ⊢
    exact ⟨by omega,by omega,l6 h⟩
   ·cases h2
  ·rintro ⟨h0,h1,h2⟩
   have hlt:x.toNat<m.Lanes.length:=by omega
   refine ⟨x.toNat,m.Lanes[x.toNat],lH hlt,?_⟩
   rw [wD,show ((x.toNat:Nat):Int)=x by omega,h2];rfl
theorem MX {m:Map}(V:ValR m){p k:Int}(h:p∈Bp m k):0≤p∧p<k∧k<m.Lanes.length∧Qu m p.toNat k=true:=by
  obtain ⟨i,l,h1,h2,rfl⟩:=mem_before.1 h
  have hk:=V.next h1 h2
  refine ⟨by omega,hk.1,hk.2,?_⟩
  rw [Xk V,lZ,bY]
  refine ⟨k,by unfold nextOf;rw [h1];exact h2,by simp⟩
/-- Each lane is a source, or a source leads to it. -/
theorem KV {m:Map}(V:ValR m): ∀(n:Nat) (a:Int),0≤a→a<m.Lanes.length→a<n→∃s∈S4 m,s=a∨Qu m s.toNat a=true
  |0,a,h0,h1,h2=>by omega
  |n+1,a,h0,h1,h2=>by
   cases hb:Bp m a with
   |nil=>exact ⟨a,mem_origins.2 ⟨h0,h1,hb⟩, .inl rfl⟩
   |cons p r=>
    obtain ⟨p0,p1,p2,p3⟩:=MX V (show p∈Bp m a by rw [hb];simp)
    obtain ⟨s,s1,s2⟩:=KV V n p p0 (by omega) (by omega)
    refine ⟨s,s1, .inr ?_⟩
    rcases s2 with rfl|s2
    ·exact p3
    ·have e:((p.toNat:Nat):Int)=p:=by omega
     exact EF V (b:=p.toNat) p3 m.Lanes.length s.toNat (by omega) (by rw [e];exact s2)
/-! ### How long lanes are -/
theorem aK: ∀(l:List Int) (s:Int),(∀x∈l,0≤x∧x≤1048576)→0≤s→s+1048576*l.length≤9000000000000000000→s≤Zq s l∧Zq s l≤s+1048576*l.length
  | [],s,_,_,_=>by simp [Zq]
  |a::r,s,h,h0,h1=>by
   have ha:=h a (by simp)
   simp only [lL]at h1 ⊢
   rw [Zq,I3 (by omega)]
   have:=aK r (s+a) (fun x hx=>h x (by simp [hx])) (by omega) (by omega)
   omega
theorem aL: ∀{l:List Spot} {last:Option CurveVector},Good last l→∀x∈Xt l,1000≤x∧x≤1048576:=by
  intro l last h
  induction h with
  |one last p=>intro x hx;simp [Xt]at hx
  |cons last p q r h1 h2 h3 h4 h ih=>
   intro x hx
   rw [Sy,lU]at hx
   rcases hx with rfl|hx
   ·exact ⟨h2,h3⟩
   ·exact ih x hx
theorem eI {c:Curve}(h:By c.Pts=0):1000≤Pf c∧Pf c≤16777216:=by
  have V:=checkM_zero.1 h
  unfold Pf Kp
  rw [bJ h]
  have h16:=V.most
  have h2:=V.two
  have hm:=aL V.good
  cases hp:c.Pts with
  |nil=>rw [hp]at h2;simp at h2
  |cons p r=>
   rw [hp]at hm h16 h2
   cases r with
   |nil=>simp at h2
   |cons q r=>
    simp only [lL]at h16
    rw [Sy]at hm ⊢
    have ha:=hm _ (List.mem_cons_self)
    have hl:=Rr r q
    rw [Zq,I3 (by omega),Int.zero_add]
    have:=aK (Xt (q::r)) (rt (M6 (Q9 p q) (Q9 p q))) (fun x hx=>by have:=hm x (List.mem_cons_of_mem _ hx);omega) (by omega) (by rw [hl];omega)
    rw [hl]at this
    omega
theorem ValR.long {m:Map}(V:ValR m){k:Int}(h0:0≤k)(h1:k<m.Lanes.length):1000≤P7 m k∧P7 m k≤16777216:=by
  obtain ⟨l,e1,e2⟩:=Rt h0 h1
  unfold P7
  rw [e1]
  exact eI (V.laneOK e1).curve
/-! ### Routes -/
def Jy (m:Map):Int→List Int→Bool
  |_,[]=>true
  |a,b::r=>(nextOf m a.toNat).contains b&&Jy m b r
noncomputable def O6 (m:Map)(r:List Int):Int:=
  if Ta m≠0 then Ta m
  else match r with
    | []=>13
    |a::t=>if 7<t.length∨a<0∨(m.Lanes.length:Int)≤a∨Bp m a≠ []∨Jy m a t=false then 13 else 0
/-- What a route is. -/
structure RouteOK (m:Map)(a:Int)(t:List Int):Prop where
  val:ValR m
  most:t.length≤7
  first:0≤a∧a<m.Lanes.length
  source:Bp m a= []
  chain:Jy m a t=true
theorem chkRoute_zero {m:Map}{r:List Int}:O6 m r=0↔∃a t,r=a::t∧RouteOK m a t:=by
  unfold O6
  constructor
  ·intro h
   split at h
   ·exact absurd h (by assumption)
   ·rename_i h1
    have V:=chkR_zero.1 (Decidable.not_not.1 h1)
    split at h
    ·cases h
    ·rename_i a t
     split at h
     ·cases h
     ·rename_i h2
      exact ⟨a,t,rfl,V,by omega,by omega,Decidable.not_not.1 fun q=>h2 (.inr (.inr (.inr (.inl q)))),by
        cases q:Jy m a t with
        |true=>rfl
        |false=>exact absurd (.inr (.inr (.inr (.inr q)))) h2⟩
  ·rintro ⟨a,t,rfl,V,h1,h2,h3,h4⟩
   rw [bK (by rw [chkR_zero.2 V];simp)]
   dsimp only
   rw [bK]
   rintro (q|q|q|q|q)
   ·omega
   ·omega
   ·omega
   ·exact q h3
   ·rw [h4]at q;cases q
theorem KW {m:Map}(V:ValR m): ∀{t:List Int} {a:Int},Jy m a t=true→0≤a→∀x∈t,a<x∧x<m.Lanes.length
  | [],_,_,_,x,hx=>by cases hx
  |b::r,a,h,h0,x,hx=>by
   rw [Jy,bO,List.contains_iff_mem]at h
   have hb:=V.nextOf h.1
   rcases lU.1 hx with rfl|hx
   ·omega
   ·have:=KW V h.2 (by omega) x hx;omega
theorem RouteOK.mem {m:Map}{a:Int}{t:List Int}(R:RouteOK m a t){x:Int}(hx:x∈a::t):0≤x∧x<m.Lanes.length:=by
  have:=R.first
  rcases lU.1 hx with rfl|hx
  ·exact this
  ·have:=KW R.val R.chain (by omega) x hx;omega
theorem SN {m:Map}(B:BearM m)(V:ValR m)(l:List Int)(hl:l.length≤1000000): ∀(r:List Int) (i:Nat) (a:Int),l.drop i=r→i≤l.length→0≤a→a<m.Lanes.length→loop (P5 m l) (a,(i:Int))=some (if Jy m a r=true then .inl ()else .inr 13):=by
  intro r
  induction r with
  |nil=>
   intro i a hi hil h0 h1
   have:=O3 hi
   obtain rfl:i=l.length:=by omega
   refine D4 ?_
   unfold P5
   rw [K2];rfl
  |cons b r ih=>
   intro i a hi hil h0 h1
   have hlt:=N2 hi
   have hb:=X0 hi
   obtain ⟨ln,e1,e2⟩:=Rt h0 h1
   have hs:P5 m l (a,(i:Int))=some (if ln.Next.contains b=true then .go (b,((i+1:Nat):Int))else .out (.inr 13)):=by
     unfold P5
     dsimp only
     rw [L9 hlt,D5 hb,bH,lB,e2,lB,Wu _ (B.toBear.pts _ (lG e1)).2,lB,J1 hlt (by omega)]
     cases ln.Next.contains b<;>rfl
   have hn:nextOf m a.toNat=ln.Next:=by unfold nextOf;rw [e1];rfl
   rw [Jy,hn]
   cases q:ln.Next.contains b
   ·rw [q]at hs;rw [D4 hs];rfl
   ·rw [q]at hs
    have hbm:=V.next e1 (List.contains_iff_mem.1 q)
    rw [K0 hs,ih (i+1) b (K7 hi) (by omega) (by omega) (by omega),bM]
theorem Yq {m:Map}(B:BearM m)(r:List Int)(hr:r.length≤1000000):V9 m r=some (O6 m r):=by
  unfold V9 O6
  rw [Md B,lB]
  by_cases q:Ta m=0
  ·have V:=chkR_zero.1 q
   rw [bK (by simpa using q),show (Ta m !=0)=false by simpa using q,bI]
   cases r with
   |nil=>rfl
   |cons a t=>
    dsimp only
    simp only [lL]at hr ⊢
    by_cases h8:7<t.length
    ·rw [bJ (.inl h8),show ((((t.length+1:Nat):Int)==0)||(decide (((t.length+1:Nat):Int)>8)))=true by simp;omega];rfl
    ·rw [show ((((t.length+1:Nat):Int)==0)||(decide (((t.length+1:Nat):Int)>8)))=false by simp;omega]
     rw [show C3 (a::t) 0=some a from rfl]
     simp only [bR,bH,lB,bS]
     by_cases h0:a<0
     ·rw [bJ (.inr (.inl h0)),bD h0];rfl
     ·rw [bE h0]
      simp only [bR,bH,lB,bS]
      by_cases h1:(m.Lanes.length:Int)≤a
      ·rw [bJ (.inr (.inr (.inl h1))),show decide (a≥(m.Lanes.length:Int))=true from bD h1];rfl
      ·rw [show decide (a≥(m.Lanes.length:Int))=false from bE (by omega)]
       simp only [bR,bH,bS]
       rw [lB,VQ B,lB]
       by_cases hb:Bp m a= []
       ·rw [hb]
        have e1:UU (a::t) 1 ((t.length+1:Nat):Int)=some t:=by
          unfold UU
          rw [bJ (by simp;omega)]
          simp
        rw [e1,show decide ((([]:List Int).length:Int)>0)=false from rfl,bI,lB]
        have:=SN B V t (by omega) t 0 a rfl (by omega) (by omega) (by omega)
        rw [show ((0:Nat):Int)=0 from rfl]at this
        rw [this]
        by_cases hc:Jy m a t=true
        ·rw [bJ hc,bK (by rw [hc];simp;omega)];rfl
        ·rw [bK hc,bJ (.inr (.inr (.inr (.inr (by simpa using hc)))))];rfl
       ·rw [bJ (.inr (.inr (.inr (.inl hb)))),show decide (((Bp m a).length:Int)>0)=true from bD (by have:=List.length_pos_iff.2 hb;omega)];rfl
  ·rw [bJ q,show (Ta m !=0)=true by simpa using q];rfl
/-- Where the lanes of a route begin. -/
noncomputable def O7 (m:Map):Int→List Int→List Int
  |_,[]=> []
  |s,a::r=>s::O7 m (s+P7 m a) r
noncomputable def Dc (m:Map):Int→List Int→Int
  |s,[]=>s
  |s,a::r=>Dc m (s+P7 m a) r
theorem Of (m:Map): ∀(r:List Int) (s:Int),(O7 m s r).length=r.length
  | [],_=>rfl
  |_::r,_=>by rw [O7,lL,Of m r,lL]
noncomputable def Af (m:Map)(r:List Int):RoadsWay:=if O6 m r=0 then ⟨m,r,O7 m 0 r,Dc m 0 r⟩else ⟨⟨0,[],[],[],[]⟩,[],[],0⟩
theorem Pr {m:Map}(B:BearM m)(r:List Int)(hr:r.length≤1000000):Y9 m r=some (Af m r):=by
  unfold Y9 Af
  rw [Yq B r hr,lB]
  by_cases q:O6 m r=0
  ·rw [bJ q,q]
   obtain ⟨a,t,rfl,R⟩:=chkRoute_zero.1 q
   have key: ∀(l:List Int) (i:Nat) (s:Int) (st:List Int),(a::t).drop i=l→i≤(a::t).length→0≤s→s≤16777216*i→st.length=i→loop (V7 m (a::t)) ((i:Int),(st,s))=some (st++O7 m s l,Dc m s l):=by
     intro l
     induction l with
     |nil=>
      intro i s st hi hil _ _ _
      have:=O3 hi
      obtain rfl:i=(a::t).length:=by omega
      refine D4 ?_
      unfold V7
      rw [K2,O7,Dc,lP];rfl
     |cons x l ih=>
      intro i s st hi hil h0 h1 h2
      have hlt:=N2 hi
      have hx:=X0 hi
      have hm:=R.mem (lG hx)
      have hl:=R.val.long hm.1 hm.2
      have hm7:=R.most
      simp only [lL]at hlt
      rw [K0 (s':=(((i+1:Nat):Int),(st++ [s],s+P7 m x)))]
      ·rw [ih (i+1) _ _ (K7 hi) (by simp;omega) (by omega) (by omega) (by simp [h2]),O7,Dc,lO];rfl
      ·unfold V7
       dsimp only
       rw [L9 (by simpa using hlt),D5 hx,bH,lB,Je (by simp;omega),lB,FP B.toBear hm.1 hm.2,lB,J1 hlt (by omega),NE (by omega)]
   have:=key (a::t) 0 0 [] rfl (by omega) (by decide) (by decide) rfl
   rw [show ((0:Nat):Int)=0 from rfl]at this
   show (loop (V7 m (a::t)) (0,([],0))).bind _=_
   rw [this];rfl
  ·rw [bK q,show (O6 m r !=0)=true by simpa using q];rfl
/-- The place in a route at which it enters a zone. -/
noncomputable def Dl (m:Map)(r:List Int)(k:Int):Int:=match m.Zones[k.toNat]? with
  |some z=>if 0≤k∧O6 m r=0 then DL (fun l=>(Lc z l).2) r else -1
  |none=> -1
theorem aM {m:Map}(B:BearM m)(r:List Int)(hr:r.length≤1000000)(k:Int):Gd m r k=some (Dl m r k):=by
  unfold Gd Dl
  rw [Pr B r hr,lB]
  by_cases h:k<0∨(m.Zones.length:Int)≤k
  ·rw [show ((decide (k<0))||(decide (k≥(m.Zones.length:Int))))=true by simpa using h,bH]
   cases hz:m.Zones[k.toNat]? with
   |none=>rfl
   |some z=>
    have:=J7 hz
    dsimp only
    rw [bK (fun x=>by have:=x.1;omega)]
  ·obtain ⟨z,z1,z2⟩:=TU (m:=m) (k:=k) (by omega) (by omega)
   rw [show ((decide (k<0))||(decide (k≥(m.Zones.length:Int))))=false by rw [bT];simpa using h,bI,z1]
   dsimp only
   have hp:=B.toBearZ.parts z (lG z1)
   have key: ∀l:List Int,l.length≤1000000→H9 l m k=some (DL (fun l=>(Lc z l).2) l):=by
     intro l hl
     unfold H9
     rw [Qr l (fun l=>(Lc z l).2) (by omega) (fun i a h=>by
      have hi:=J7 h
      unfold G8 Z2
      rw [L9 hi,D5 h,bH,lB,z2,lB,eF hp,lB,lB]
      cases (Lc z a).2<;>rfl) (by unfold G8;rw [K2];rfl)]
   unfold Af
   by_cases q:O6 m r=0
   ·rw [bJ q,bJ ⟨by omega,q⟩,key r hr];rfl
   ·rw [bK q,bK (fun x=>q x.2),key [] (by simp)];rfl
/-- A walk that goes on until it can't. -/
def EJ (m:Map):Nat→Int→List Int→Bool
  |c,a,[]=>(nextOf m a.toNat).isEmpty||c==0
  |c,a,b::r=>(nextOf m a.toNat).contains b&&decide (0<c)&&EJ m (c - 1) b r
theorem IJ {m:Map}: ∀{r:List Int} {c:Nat} {a:Int},EJ m c a r=true→Jy m a r=true∧r.length≤c
  | [],c,a,_=>⟨rfl,wB _⟩
  |b::r,c,a,h=>by
   rw [EJ,bO,bO,bF]at h
   have:=IJ h.2
   rw [Jy,h.1.1,this.1]
   refine ⟨rfl,?_⟩
   simp only [lL];omega
theorem PS {m:Map}(V:ValR m): ∀(f:Nat) (x a:Int) (c:Nat) (out:List Int),0≤x→x<16777216→0≤a→a<m.Lanes.length→m.Lanes.length≤a.toNat+f→out.length+c=8→
    ∃r,loop (Jl m) (x,a,out)=some (out++r)∧EJ m c a r=true
  |0,x,a,c,out,h0,h1,a0,a1,hf,hc=>by omega
  |f+1,x,a,c,out,h0,h1,a0,a1,hf,hc=>by
   obtain ⟨ln,e1,e2⟩:=Rt a0 a1
   have hn:nextOf m a.toNat=ln.Next:=by unfold nextOf;rw [e1];rfl
   have hfew:=(V.laneOK e1).few
   by_cases q:ln.Next.length=0∨c=0
   ·refine ⟨[],?_,?_⟩
    ·rw [lP]
     refine D4 ?_
     unfold Jl
     dsimp only
     rw [e2,lB]
     rw [show ((decide ((ln.Next.length:Int)>0))&& (decide ((out.length:Int)<8)))=false by simp;omega];rfl
    ·rw [EJ,hn]
     rcases q with q|q
     ·rw [l6 q];rfl
     ·rw [q,beq_self_eq_true,Bool.or_true]
   ·have hm:=Fe x (show (0:Int)< (ln.Next.length:Int) by omega)
    have hlt:(x % (ln.Next.length:Int)).toNat<ln.Next.length:=by omega
    have hbm:=V.next e1 (List.getElem_mem hlt)
    have hx:0≤x / (ln.Next.length:Int)∧x / (ln.Next.length:Int)<16777216:=⟨Int.ediv_nonneg h0 (by omega),Int.lt_of_le_of_lt (Int.ediv_le_self _ h0) h1⟩
    obtain ⟨r,r1,r2⟩:=PS V f (x / (ln.Next.length:Int)) ln.Next[(x % (ln.Next.length:Int)).toNat] (c - 1) (out++ [ln.Next[(x % (ln.Next.length:Int)).toNat]]) hx.1 hx.2 (by omega) (by omega) (by omega) (by simp;omega)
    refine ⟨ln.Next[(x % (ln.Next.length:Int)).toNat]::r,?_,?_⟩
    ·rw [lO]at r1
     rw [K0 (s':=(x / (ln.Next.length:Int),ln.Next[(x % (ln.Next.length:Int)).toNat],out++ [ln.Next[(x % (ln.Next.length:Int)).toNat]]))]
     ·exact r1
     ·unfold Jl
      dsimp only
      rw [e2,lB]
      rw [show ((decide ((ln.Next.length:Int)>0))&& (decide ((out.length:Int)<8)))=true by simp;omega,bH,lB,lB]
      unfold Re OK
      rw [bK (by omega),lB,wH h0,wG h0]
      have e3:C3 ln.Next (x % (ln.Next.length:Int))=some ln.Next[(x % (ln.Next.length:Int)).toNat]:=by
        unfold C3
        rw [bJ hm.1,lH hlt]
      rw [e3,lB,bK (by omega),lB,Je (by simp;omega),lB]
      have:IntKind.wrap .i64 (x / (ln.Next.length:Int))=x / (ln.Next.length:Int):=NE (by omega)
      rw [this]
    ·rw [EJ,hn,r2,Bool.and_true,bO]
     exact ⟨List.contains_iff_mem.2 (List.getElem_mem hlt),by simp;omega⟩
/-- A route of the kit: it begins at a source, and goes on until it can't. -/
theorem MY {m:Map}(B:BearM m)(V:ValR m)(n:Int): ∃a t,Hm m n=some (a::t)∧a∈S4 m∧EJ m 7 a t=true:=by
  unfold Hm
  obtain ⟨s,s1,_⟩:=KV V 1 0 (by decide) (by have:=V.pos;omega) (by decide)
  have h12:=V.lanes
  have ol:(S4 m).length≤12:=Nat.le_trans (Xj _ _ _) h12
  have op:0< (S4 m).length:=List.length_pos_iff.2 (fun e=>by rw [e]at s1;cases s1)
  rw [PQ B,lB,show (((S4 m).length:Int)==0)=false by simp only [beq_eq_false_iff_ne];omega,bI,Qv (by decide) (by decide),lB]
  have c:=Fe n (show (0:Int)<1048576 by decide)
  generalize n % 1048576=x at c
  unfold Re OK
  rw [bK (by omega),lB,wH c.1,wG c.1]
  have hm:=Fe x (show (0:Int)< ((S4 m).length:Int) by omega)
  have hlt:(x % ((S4 m).length:Int)).toNat< (S4 m).length:=by omega
  have e3:C3 (S4 m) (x % ((S4 m).length:Int))=some (S4 m)[(x % ((S4 m).length:Int)).toNat]:=by
    unfold C3
    rw [bJ hm.1,lH hlt]
  have hx:0≤x / ((S4 m).length:Int)∧x / ((S4 m).length:Int)<16777216:=⟨Int.ediv_nonneg c.1 (by omega),by have:=Int.ediv_le_self ((S4 m).length:Int) c.1;omega⟩
  rw [e3,lB,bK (by omega),lB]
  have:IntKind.wrap .i64 (x / ((S4 m).length:Int))=x / ((S4 m).length:Int):=NE (by omega)
  rw [this]
  have hmem:=List.getElem_mem hlt
  have ho:=mem_origins.1 hmem
  obtain ⟨r,r1,r2⟩:=PS V m.Lanes.length (x / ((S4 m).length:Int)) (S4 m)[(x % ((S4 m).length:Int)).toNat] 7 [(S4 m)[(x % ((S4 m).length:Int)).toNat]] hx.1 hx.2 ho.1 ho.2.1 (by omega) rfl
  exact ⟨_,r,by rw [r1];rfl,hmem,r2⟩
theorem aN {m:Map}(V:ValR m){a:Int}{t:List Int}(ha:a∈S4 m)(h:EJ m 7 a t=true):RouteOK m a t:=by
  have ho:=mem_origins.1 ha
  have hf:=IJ h
  exact ⟨V,hf.2,⟨ho.1,ho.2.1⟩,ho.2.2,hf.1⟩
end Go.Abs.World
/-! Lists that are sorted, and how an insertion sort makes them. -/
namespace Go.Abs
open Go
/-- What a comparison must satisfy. -/
structure LtOK {α:Type}(lt:α→α→Bool):Prop where
  asym: ∀a b,lt a b=true→lt b a=false
  trans: ∀a b c,lt b a=false→lt c b=false→lt c a=false
def Srt {α:Type}(lt:α→α→Bool)(l:List α):Prop:=l.Pairwise fun a b=>lt b a=false
section
variable {α:Type}
theorem CF (U V:List α)(x y:α)(n:Int)(h:n=(U.length:Int)):Mh (U++x::V) n y=U++y::V:=by
  subst h
  simp [Mh]
theorem Tc (U V:List α)(x:α)(n:Int)(h:n=(U.length:Int)):C3 (U++x::V) n=some x:=by
  subst h
  simp [C3]
theorem SO {Q:List α}(h:Q≠ []): ∃Q' q,Q=Q'++ [q]:=⟨Q.dropLast,Q.getLast h,(List.dropLast_concat_getLast h).symm⟩
variable {lt:α→α→Bool}
theorem Srt.ins (L:LtOK lt){Q1 Q2:List α}{x:α}(h:Srt lt (Q1++Q2))(h1: ∀q∈Q1,lt x q=false)(h2: ∀q∈Q2,lt x q=true):Srt lt (Q1++x::Q2):=by
  unfold Srt at h ⊢
  rw [List.pairwise_append]at h ⊢
  refine ⟨h.1,l9.2 ⟨fun b hb=>L.asym _ _ (h2 b hb),h.2.1⟩,fun a ha b hb=> ?_⟩
  rcases lU.1 hb with rfl|hb
  ·exact h1 a ha
  ·exact h.2.2 a ha b hb
theorem LtOK.irr (L:LtOK lt)(a:α):lt a a=false:=by
  cases h:lt a a with
  |false=>rfl
  |true=>rw [L.asym a a h]at h;cases h
theorem Srt.get (L:LtOK lt){l:List α}(h:Srt lt l){i j:Nat}(hij:i≤j)(hj:j<l.length):lt l[j] l[i]=false:=by
  rcases Nat.lt_or_eq_of_le hij with h1|h1
  ·exact List.pairwise_iff_getElem.1 h i j (by omega) hj h1
  ·subst h1;exact L.irr _
/-- The inner loop: an element goes down to its place. -/
theorem KX (L:LtOK lt){F:Int×List α→Option (Stp (Int×List α) (List α))}{P T:List α}(N:Nat)
    (hstop: ∀xs,F ((P.length:Int),xs)=some (.out xs))
    (hF: ∀(U V:List α) (q x:α),P.length≤U.length→(U++q::x::V).length=N→F (((U.length:Int)+1),U++q::x::V)=some (if lt x q then .go ((U.length:Int),U++x::q::V)else .out (U++q::x::V))) (x:α):
    ∀(n:Nat) (Q1 Q2:List α),Q1.length=n→Srt lt (Q1++Q2)→(∀q∈Q2,lt x q=true)→(P++Q1++x::Q2++T).length=N→
     ∃Q,loop F (((P.length+Q1.length:Nat):Int),P++Q1++x::Q2++T)=some (P++Q++T)∧Q.Perm (x::(Q1++Q2))∧Srt lt Q:=by
  intro n
  induction n with
  |zero=>
   intro Q1 Q2 hn hs hg hN
   obtain rfl:=List.length_eq_zero_iff.1 hn
   refine ⟨x::Q2,?_,by simp,?_⟩
   ·rw [D4 (by rw [lN,Nat.add_zero];exact hstop _)]
    simp
   ·exact hs.ins L (by simp) hg
  |succ n ih=>
   intro Q1 Q2 hn hs hg hN
   obtain ⟨Q',q,rfl⟩:=SO (Q:=Q1) (by rintro rfl;simp at hn)
   rw [lM,List.length_singleton]at hn
   have e1:P++ (Q'++ [q])++x::Q2++T=(P++Q')++q::x::(Q2++T):=by simp
   have e2:((P.length+ (Q'++ [q]).length:Nat):Int)=((P++Q').length:Int)+1:=by simp;omega
   have hF1:=hF (P++Q') (Q2++T) q x (by simp) (by rw [← e1];exact hN)
   by_cases hl:lt x q=true
   ·rw [bJ hl]at hF1
    obtain ⟨Q,g1,g2,g3⟩:=ih Q' (q::Q2) (by omega) (by simpa using hs) (fun y hy=>by
      rcases lU.1 hy with rfl|hy
      ·exact hl
      ·exact hg y hy) (by rw [← hN];simp)
    refine ⟨Q,?_,g2.trans (by simp),g3⟩
    rw [e1,e2,K0 hF1,← g1]
    congr 1
    simp
   ·rw [bK hl]at hF1
    have hl':lt x q=false:=by simpa using hl
    refine ⟨Q'++ [q]++x::Q2,?_,?_,hs.ins L (fun y hy=> ?_) hg⟩
    ·rw [e1,e2,D4 hF1];simp
    ·have:=List.perm_middle (a:=x) (l₁:=Q'++ [q]) (l₂:=Q2);exact this
    ·rcases lT.1 hy with h|h
     ·have hq:lt q y=false:=by
        unfold Srt at hs
        rw [lO,List.pairwise_append]at hs
        exact hs.2.2 y h q (by simp)
      exact L.trans y q x hq hl'
     ·rw [bC.1 h];exact hl'
/-- The outer loop. -/
theorem VU {F:Int×List α→Option (Stp (Int×List α) (List α))}{P S:List α}(N:Nat)(b:Nat)
    (hend: ∀xs (i:Nat),b≤i→F ((i:Int),xs)=some (.out xs))
    (hF: ∀(Q R:List α) (x:α),(P++Q++x::R++S).length=N→P.length+Q.length<b→Srt lt Q→∃Q',F (((P.length+Q.length:Nat):Int),P++Q++x::R++S)=some (.go (((P.length+Q.length+1:Nat):Int),P++Q'++R++S))∧Q'.Perm (x::Q)∧Srt lt Q'):
    ∀(R Q:List α),(P++Q++R++S).length=N→P.length+Q.length+R.length=b→Srt lt Q→∃Q',loop F (((P.length+Q.length:Nat):Int),P++Q++R++S)=some (P++Q'++S)∧Q'.Perm (Q++R)∧Srt lt Q':=by
  intro R
  induction R with
  |nil=>
   intro Q hN hb hs
   refine ⟨Q,?_,by simp,hs⟩
   rw [D4 (hend _ _ (by simpa using Nat.le_of_eq hb.symm))]
   simp
  |cons x R ih=>
   intro Q hN hb hs
   rw [lL]at hb
   obtain ⟨Q',g1,g2,g3⟩:=hF Q R x hN (by omega) hs
   have hl:Q'.length=Q.length+1:=by rw [g2.length_eq];simp
   obtain ⟨Q2,k1,k2,k3⟩:=ih Q' (by rw [← hN];simp [hl];omega) (by omega) g3
   refine ⟨Q2,?_,k2.trans ((g2.append_right R).trans ?_),k3⟩
   ·rw [K0 g1,← k1,hl]
    congr 1
   ·exact (List.perm_middle (a:=x) (l₁:=Q) (l₂:=R)).symm
end
end Go.Abs
/-! How the lists are sorted. -/
namespace Go.Abs.World
open Go Go.Abs
theorem eJ {α:Type}(U V:List α)(q x:α):U++q::x::V=(U++ [q])++x::V:=by simp
structure SigOK (s:Signal):Prop where
  pos:0<s.Phases.length
  many:s.Phases.length≤6
  off:0≤s.Offset∧s.Offset≤1099511627776
  ticks: ∀p∈s.Phases,1≤p.Ticks∧p.Ticks≤10000
  green: ∀p∈s.Phases,p.Green.length≤1000000
theorem ValR.sig {m:Map}(B:BearM m)(V:ValR m){i:Nat}{s:Signal}(h:m.Signals[i]? =some s):SigOK s:=by
  have:=firstE_none.1 V.signalE i s h
  unfold World.signalE at this
  split at this
  ·cases this
  split at this
  ·cases this
  split at this
  ·cases this
  split at this
  ·cases this
  rename_i h1 h2 h3 h4
  refine ⟨by omega,by omega,?_,fun p hp=> ?_,(B.toBearS.phases s (lG h)).2⟩
  ·have:Te s.Offset 0 1099511627776=true:=by simpa using h3
   simpa [Te] using this
  ·have:Te p.Ticks 1 10000=true:=by
     cases q:Te p.Ticks 1 10000 with
     |true=>rfl
     |false=>exact absurd (lZ.2 ⟨p,hp,by rw [q];rfl⟩) h4
   simpa [Te] using this
def Mi:List Phase→Int
  | []=>0
  |p::r=>p.Ticks+Mi r
def EK (lane:Int):Int→List Phase→Bool
  |_,[]=>false
  |at_,p::r=>if p.Ticks≤at_ then EK lane (at_ - p.Ticks) r else p.Green.contains lane
def SP (s:Signal)(lane tick:Int):Bool:=EK lane ((s.Offset+tick) % Mi s.Phases) s.Phases
theorem TW: ∀{l:List Phase},(∀p∈l,1≤p.Ticks∧p.Ticks≤10000)→(l.length:Int)≤Mi l∧Mi l≤10000*l.length
  | [],_=>by simp [Mi]
  |p::r,h=>by
   have:=TW (l:=r) fun q hq=>h q (List.mem_cons_of_mem _ hq)
   have:=h p (by simp)
   simp only [Mi,lL]
   omega
theorem SigOK.sum {s:Signal}(S:SigOK s):1≤Mi s.Phases∧Mi s.Phases≤60000:=by
  have:=TW S.ticks
  have:=S.pos
  have:=S.many
  omega
theorem jZ (s:Signal)(S:SigOK s): ∀(r:List Phase) (i:Nat) (a:Int),s.Phases.drop i=r→i≤s.Phases.length→0≤a→a+10000*r.length≤1000000→loop (Bg s) (a,(i:Int))=some (a+Mi r):=by
  intro r
  induction r with
  |nil=>
   intro i a hi hil h0 h1
   have:=O3 hi
   obtain rfl:i=s.Phases.length:=by omega
   refine D4 ?_
   unfold Bg
   rw [K2];simp [Mi]
  |cons p r ih=>
   intro i a hi hil h0 h1
   have hlt:=N2 hi
   have hp:=X0 hi
   have hb:=S.ticks p (lG hp)
   simp only [lL]at h1
   have hs:Bg s (a,(i:Int))=some (.go (a+p.Ticks,((i+1:Nat):Int))):=by
     unfold Bg
     dsimp only
     rw [L9 hlt,D5 hp,bH,lB,I3 (by omega),J1 hlt (by have:=S.many;omega)]
   rw [K0 hs,ih (i+1) _ (K7 hi) (by omega) (by omega) (by omega),Mi]
   congr 1;omega
theorem kA (s:Signal)(S:SigOK s)(lane:Int): ∀(r:List Phase) (i:Nat) (a:Int),s.Phases.drop i=r→i≤s.Phases.length→0≤a→a≤1000000→thenS (loop (T8 s lane) (a,(i:Int))) (fun _=>some false) (fun r=>some r)=some (EK lane a r):=by
  intro r
  induction r with
  |nil=>
   intro i a hi hil h0 h1
   have:=O3 hi
   obtain rfl:i=s.Phases.length:=by omega
   rw [D4 (t:= .inl ())]
   ·rfl
   ·unfold T8
    rw [K2];rfl
  |cons p r ih=>
   intro i a hi hil h0 h1
   have hlt:=N2 hi
   have hp:=X0 hi
   have hb:=S.ticks p (lG hp)
   by_cases hc:p.Ticks≤a
   ·have hs:T8 s lane (a,(i:Int))=some (.go (a - p.Ticks,((i+1:Nat):Int))):=by
      unfold T8
      dsimp only
      rw [L9 hlt,D5 hp,bH,lB,show decide (a≥p.Ticks)=true from bD hc,bH,I3 (by omega),J1 hlt (by have:=S.many;omega)]
    rw [K0 hs,ih (i+1) _ (K7 hi) (by omega) (by omega) (by omega),EK,bJ hc]
   ·have hs:T8 s lane (a,(i:Int))=some (.out (.inr (p.Green.contains lane))):=by
      unfold T8
      dsimp only
      rw [L9 hlt,D5 hp,bH,lB,show decide (a≥p.Ticks)=false from bE (by omega),bI,Wu _ (S.green p (lG hp)),lB]
    rw [D4 hs,EK,bK hc];rfl
theorem fQ {s:Signal}(S:SigOK s){tick:Int}(h:0≤tick):(D9 (s.Offset.tmod (Mi s.Phases)+tick.tmod (Mi s.Phases))).tmod (Mi s.Phases)=(s.Offset+tick) % Mi s.Phases:=by
  obtain ⟨h1,h2⟩:=S.sum
  have ho:=S.off.1
  rw [wH ho,wH h]
  have a1:=wI s.Offset (b:=Mi s.Phases) (by omega)
  have a2:=wI tick (b:=Mi s.Phases) (by omega)
  have a3:=wJ s.Offset (b:=Mi s.Phases) (by omega)
  have a4:=wJ tick (b:=Mi s.Phases) (by omega)
  rw [I3 (by omega),wH (by omega),← Int.add_emod]
theorem VV {s:Signal}(S:SigOK s)(lane:Int){tick:Int}(h:0≤tick):Eh s lane tick=some (SP s lane tick):=by
  obtain ⟨h1,h2⟩:=S.sum
  unfold Eh
  have e1:loop (Bg s) (0,0)=some (Mi s.Phases):=by
    have:=jZ s S s.Phases 0 0 rfl (by omega) (by omega) (by have:=S.many;omega)
    rw [Int.zero_add]at this;exact this
  have hne:Mi s.Phases≠0:=by omega
  rw [e1,lB]
  unfold Re
  rw [bK hne,lB,bK hne,lB,bK hne,lB,fQ S h]
  refine kA s S lane s.Phases 0 _ rfl (by omega) (wI _ hne) ?_
  have:=wJ (s.Offset+tick) (b:=Mi s.Phases) (by omega)
  omega
noncomputable def DO (m:Map)(g lane tick:Int):Bool:=(((decide (tick≥0))&& (decide (g≥0)))&& (decide (g< (m.Signals.length:Int))))&&SH m lane&&SP (m.Signals.getD g.toNat default) lane tick
theorem aO {m:Map}(B:BearM m)(g lane tick:Int):Gf m g lane tick=some (DO m g lane tick):=by
  unfold Gf DO
  rw [EG B]
  cases hc:(((decide (tick≥0))&& (decide (g≥0)))&& (decide (g< (m.Signals.length:Int))))
  ·rfl
  ·cases hi:SH m lane
   ·rfl
   ·simp only [bO,bF]at hc
    obtain ⟨⟨c1,c2⟩,c3⟩:=hc
    have hl:g.toNat<m.Signals.length:=by omega
    have hget:m.Signals[g.toNat]? =some (m.Signals.getD g.toNat default):=by rw [List.getD,lH hl];rfl
    have hg:C3 m.Signals g=some (m.Signals.getD g.toNat default):=by unfold C3;rw [bJ c2,hget]
    have S:=((isM_true.1 hi).2.2).sig B hget
    simp only [bH,lB,bM,hg,VV S lane c1]
theorem Qw {high:Int}: ∀{l:List Int} {low:Int},Bo high low l=true→l.Pairwise (· < ·)
  | [],_,_=>List.Pairwise.nil
  |n::r,low,h=>by
   simp only [Bo,bO]at h
   refine l9.2 ⟨fun x hx=> ?_,Qw h.2⟩
   have:=(Jr h.2 x hx).1
   omega
end Go.Abs.World
