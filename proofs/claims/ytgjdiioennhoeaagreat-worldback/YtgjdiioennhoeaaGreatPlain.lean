/-
  Plain facts on the functions: what they compute, and that the law holds of it.
-/
import Derived.Test.YtgjdiioennhoeaaGreatFns5
set_option maxRecDepth 100000
set_option synthInstance.maxHeartbeats 0
set_option synthInstance.maxSize 100000
set_option linter.unusedVariables false
namespace Go.Abs.World
open Go Go.Abs
noncomputable def Rf (p1:State)(x1:(Int×State)):Option (Stp (Int×State) State):=
  cond (decide (x1.1< (p1.Agents.length:Int))) ((C4 p1.Agents x1.1).bind fun v2=>(X3 ([]:List Int) v2.Route).bind fun v3=>(X3 x1.2.Agents [(Agent.mk v3 v2.S v2.V v2.Len v2.Begin v2.Obey v2.Gone)]).bind fun v4=>some (.go ((E5 (x1.1+1)),(State.mk x1.2.Tick v4 x1.2.In)))) (some (.out x1.2))
noncomputable def ON [Lp](p1:State):Option State:=
  (X3 ([]:List Stay) p1.In).bind fun v1=>(loop (Rf p1) (0,(State.mk p1.Tick [] v1))).bind fun y1=>some y1
instance (a)(b)(c)(d):Le (@V6 X4 a b c d) (V6 a b c d):=by unfold V6;infer_instance
instance:Le (@Tu X4) (Tu):=by unfold Tu;infer_instance
instance (a):Le (@Jj X4 a) (Jj a):=by unfold Jj;infer_instance
instance (a):Le (@Ld X4 a) (Ld a):=by unfold Ld;infer_instance
instance curve_root_le (a):Le (@Gw X4 a) (Gw a):=by unfold Gw;infer_instance
instance (a)(b):Le (@Z9 X4 a b) (Z9 a b):=by unfold Z9;infer_instance
instance (a):Le (@Ga X4 a) (Ga a):=by unfold Ga;infer_instance
instance (a)(b)(c):Le (@Cl X4 a b c) (Cl a b c):=by unfold Cl;infer_instance
instance (a)(b):Le (@S6 X4 a b) (S6 a b):=by unfold S6;infer_instance
instance (a):Le (@W5 X4 a) (W5 a):=by unfold W5;infer_instance
instance (a)(b):Le (@R0 X4 a b) (R0 a b):=by unfold R0;infer_instance
instance (a):Le (@V4 X4 a) (V4 a):=by unfold V4;infer_instance
instance (a):Le (@H8 X4 a) (H8 a):=by unfold H8;infer_instance
instance (a):Le (@F5 X4 a) (F5 a):=by unfold F5;infer_instance
instance (a)(b):Le (@U7 X4 a b) (U7 a b):=by unfold U7;infer_instance
instance (a)(b)(c):Le (@F2 X4 a b c) (F2 a b c):=by unfold F2;infer_instance
instance (a)(b):Le (@H6 X4 a b) (H6 a b):=by unfold H6;infer_instance
instance (a)(b):Le (@F3 X4 a b) (F3 a b):=by unfold F3;infer_instance
instance (a)(b):Le (@Q5 X4 a b) (Q5 a b):=by unfold Q5;infer_instance
instance (a):Le (@U3 X4 a) (U3 a):=by unfold U3;infer_instance
instance piecesGo_le (pts:List Spot): ∀(n i:Nat) (s:Int),Le (@Ka X4 pts n i s) (Ka pts n i s)
  |0,i,s=>Le.refl _
  |n+1,i,s=>by
   unfold Ka;have:=fun i s=>piecesGo_le pts n i s
   infer_instance
instance (a):Le (@We X4 a) (We a):=by unfold We;infer_instance
instance (a):Le (@Gb X4 a) (Gb a):=by unfold Gb;infer_instance
instance curve_Length_le (a):Le (@Dw X4 a) (Dw a):=by unfold Dw;infer_instance
instance (a)(b):Le (@Dm X4 a b) (Dm a b):=by unfold Dm;infer_instance
instance (a)(b)(c):Le (@S7 X4 a b c) (S7 a b c):=by unfold S7;infer_instance
instance (a)(b):Le (@S8 X4 a b) (S8 a b):=by unfold S8;infer_instance
instance (a):Le (@W6 X4 a) (W6 a):=by unfold W6;infer_instance
instance (a)(b):Le (@S9 X4 a b) (S9 a b):=by unfold S9;infer_instance
instance (a):Le (@W7 X4 a) (W7 a):=by unfold W7;infer_instance
instance (a)(b):Le (@U8 X4 a b) (U8 a b):=by unfold U8;infer_instance
instance (a)(b):Le (@Q0 X4 a b) (Q0 a b):=by unfold Q0;infer_instance
instance roads_Check_le (a):Le (@Cw X4 a) (Cw a):=by unfold Cw;infer_instance
instance (a)(b):Le (@T0 X4 a b) (T0 a b):=by unfold T0;infer_instance
instance (a)(b):Le (@O7 X4 a b) (O7 a b):=by unfold O7;infer_instance
instance (a)(b)(c):Le (@Bo X4 a b c) (Bo a b c):=by unfold Bo;infer_instance
instance (a)(b):Le (@Gd X4 a b) (Gd a b):=by unfold Gd;infer_instance
instance (a)(b)(c):Le (@R4 X4 a b c) (R4 a b c):=by unfold R4;infer_instance
instance (a)(b):Le (@Y7 X4 a b) (Y7 a b):=by unfold Y7;infer_instance
instance (a)(b)(c):Le (@Y4 X4 a b c) (Y4 a b c):=by unfold Y4;infer_instance
instance (a)(b):Le (@Av X4 a b) (Av a b):=by unfold Av;infer_instance
instance (a)(b):Le (@W8 X4 a b) (W8 a b):=by unfold W8;infer_instance
instance (a)(b):Le (@Cn X4 a b) (Cn a b):=by unfold Cn;infer_instance
instance (a)(b):Le (@Jk X4 a b) (Jk a b):=by unfold Jk;infer_instance
instance (a)(b):Le (@Gx X4 a b) (Gx a b):=by unfold Gx;infer_instance
instance (a)(b)(c):Le (@Ai X4 a b c) (Ai a b c):=by unfold Ai;infer_instance
instance (a):Le (@Cd X4 a) (Cd a):=by unfold Cd;infer_instance
instance (a)(b):Le (@Eb X4 a b) (Eb a b):=by unfold Eb;infer_instance
instance (a)(b):Le (@K6 X4 a b) (K6 a b):=by unfold K6;infer_instance
instance (a)(b):Le (@G0 X4 a b) (G0 a b):=by unfold G0;infer_instance
instance (a)(b)(c):Le (@Ax X4 a b c) (Ax a b c):=by unfold Ax;infer_instance
instance (a)(b)(c):Le (@Ay X4 a b c) (Ay a b c):=by unfold Ay;infer_instance
instance (a)(b):Le (@Ec X4 a b) (Ec a b):=by unfold Ec;infer_instance
instance (a):Le (@M4 X4 a) (M4 a):=by unfold M4;infer_instance
instance (a):Le (@L5 X4 a) (L5 a):=by unfold L5;infer_instance
instance (a)(b):Le (@Cx X4 a b) (Cx a b):=by unfold Cx;infer_instance
instance (a)(b):Le (@D6 X4 a b) (D6 a b):=by unfold D6;infer_instance
instance (a)(b)(c):Le (@E4 X4 a b c) (E4 a b c):=by unfold E4;infer_instance
instance (a)(b)(c):Le (@E0 X4 a b c) (E0 a b c):=by unfold E0;infer_instance
instance (a)(b)(c):Le (@H7 X4 a b c) (H7 a b c):=by unfold H7;infer_instance
instance (a)(b):Le (@E6 X4 a b) (E6 a b):=by unfold E6;infer_instance
instance (a)(b):Le (@K4 X4 a b) (K4 a b):=by unfold K4;infer_instance
instance (a):Le (@G2 X4 a) (G2 a):=by unfold G2;infer_instance
instance (a)(b)(c):Le (@I7 X4 a b c) (I7 a b c):=by unfold I7;infer_instance
instance (a)(b):Le (@F1 X4 a b) (F1 a b):=by unfold F1;infer_instance
instance (a)(b):Le (@I8 X4 a b) (I8 a b):=by unfold I8;infer_instance
instance (a)(b):Le (@I9 X4 a b) (I9 a b):=by unfold I9;infer_instance
instance (a):Le (@K5 X4 a) (K5 a):=by unfold K5;infer_instance
instance:Le (@G3 X4) (G3):=by unfold G3;infer_instance
instance (a)(b)(c)(d)(e):Le (@V7 X4 a b c d e) (V7 a b c d e):=by unfold V7;infer_instance
instance (a)(b)(c):Le (@P7 X4 a b c) (P7 a b c):=by unfold P7;infer_instance
instance (a)(b):Le (@X1 X4 a b) (X1 a b):=by unfold X1;infer_instance
instance (a)(b)(c):Le (@J6 X4 a b c) (J6 a b c):=by unfold J6;infer_instance
instance (a)(b)(c):Le (@G6 X4 a b c) (G6 a b c):=by unfold G6;infer_instance
instance (a)(b)(c)(d):Le (@Ed X4 a b c d) (Ed a b c d):=by unfold Ed;infer_instance
instance (a)(b)(c):Le (@O9 X4 a b c) (O9 a b c):=by unfold O9;infer_instance
instance (a)(b)(c):Le (@E2 X4 a b c) (E2 a b c):=by unfold E2;infer_instance
instance (a)(b):Le (@D9 X4 a b) (D9 a b):=by unfold D9;infer_instance
instance (a)(b):Le (@K9 X4 a b) (K9 a b):=by unfold K9;infer_instance
instance (a)(b):Le (@Lf X4 a b) (Lf a b):=by unfold Lf;infer_instance
instance (a)(b)(c):Le (@Ba X4 a b c) (Ba a b c):=by unfold Ba;infer_instance
instance (a)(b)(c)(d):Le (@I3 X4 a b c d) (I3 a b c d):=by unfold I3;infer_instance
instance (a)(b)(c):Le (@J1 X4 a b c) (J1 a b c):=by unfold J1;infer_instance
instance (a)(b)(c):Le (@Jc X4 a b c) (Jc a b c):=by unfold Jc;infer_instance
instance (a)(b)(c):Le (@Ee X4 a b c) (Ee a b c):=by unfold Ee;infer_instance
instance (a)(b):Le (@Mu X4 a b) (Mu a b):=by unfold Mu;infer_instance
instance (a)(b)(c):Le (@V8 X4 a b c) (V8 a b c):=by unfold V8;infer_instance
instance (a)(b)(c):Le (@Gh X4 a b c) (Gh a b c):=by unfold Gh;infer_instance
instance (a)(b)(c)(d):Le (@Jd X4 a b c d) (Jd a b c d):=by unfold Jd;infer_instance
instance (a)(b):Le (@J2 X4 a b) (J2 a b):=by unfold J2;infer_instance
instance (a)(b)(c)(d):Le (@Gz X4 a b c d) (Gz a b c d):=by unfold Gz;infer_instance
instance (a)(b)(c)(d):Le (@Y8 X4 a b c d) (Y8 a b c d):=by unfold Y8;infer_instance
instance (a)(b):Le (@Y9 X4 a b) (Y9 a b):=by unfold Y9;infer_instance
instance (a):Le (@Bk X4 a) (Bk a):=by unfold Bk;infer_instance
instance (a)(b):Le (@Cp X4 a b) (Cp a b):=by unfold Cp;infer_instance
instance (a)(b)(c)(d):Le (@Cq X4 a b c d) (Cq a b c d):=by unfold Cq;infer_instance
instance (a)(b):Le (@Jo X4 a b) (Jo a b):=by unfold Jo;infer_instance
instance (a)(b):Le (@I5 X4 a b) (I5 a b):=by unfold I5;infer_instance
instance (a)(b):Le (@F8 X4 a b) (F8 a b):=by unfold F8;infer_instance
instance (a)(b):Le (@Af X4 a b) (Af a b):=by unfold Af;infer_instance
instance (a)(b)(c):Le (@G7 X4 a b c) (G7 a b c):=by unfold G7;infer_instance
instance (a)(b):Le (@J7 X4 a b) (J7 a b):=by unfold J7;infer_instance
instance (a)(b):Le (@G8 X4 a b) (G8 a b):=by unfold G8;infer_instance
instance (a)(b)(c):Le (@Cz X4 a b c) (Cz a b c):=by unfold Cz;infer_instance
instance (a)(b)(c)(d):Le (@U4 X4 a b c d) (U4 a b c d):=by unfold U4;infer_instance
instance (a)(b)(c)(d):Le (@Ma X4 a b c d) (Ma a b c d):=by unfold Ma;infer_instance
instance (a)(b)(c)(d)(e):Le (@Mb X4 a b c d e) (Mb a b c d e):=by unfold Mb;infer_instance
instance (a)(b):Le (@Tv X4 a b) (Tv a b):=by unfold Tv;infer_instance
instance (a)(b)(c):Le (@H5 X4 a b c) (H5 a b c):=by unfold H5;infer_instance
instance (a)(b)(c):Le (@K0 X4 a b c) (K0 a b c):=by unfold K0;infer_instance
instance (a)(b):Le (@N8 X4 a b) (N8 a b):=by unfold N8;infer_instance
instance (a)(b)(c)(d):Le (@P4 X4 a b c d) (P4 a b c d):=by unfold P4;infer_instance
instance (a):Le (@P8 X4 a) (P8 a):=by unfold P8;infer_instance
instance (a)(b)(c):Le (@N1 X4 a b c) (N1 a b c):=by unfold N1;infer_instance
instance (a)(b):Le (@M5 X4 a b) (M5 a b):=by unfold M5;infer_instance
instance (a):Le (@N9 X4 a) (N9 a):=by unfold N9;infer_instance
instance (a)(b)(c):Le (@P5 X4 a b c) (P5 a b c):=by unfold P5;infer_instance
instance:Le (@P9 X4) (P9):=by unfold P9;infer_instance
instance (a)(b)(c)(d)(e):Le (@Bb X4 a b c d e) (Bb a b c d e):=by unfold Bb;infer_instance
instance (a)(b)(c)(d):Le (@Bc X4 a b c d) (Bc a b c d):=by unfold Bc;infer_instance
instance (a)(b)(c):Le (@Ns X4 a b c) (Ns a b c):=by unfold Ns;infer_instance
instance (a)(b)(c):Le (@Ii X4 a b c) (Ii a b c):=by unfold Ii;infer_instance
instance (a)(b)(c)(d)(e):Le (@I6 X4 a b c d e) (I6 a b c d e):=by unfold I6;infer_instance
instance (a)(b)(c)(d)(e):Le (@I0 X4 a b c d e) (I0 a b c d e):=by unfold I0;infer_instance
instance (a)(b)(c)(d)(e):Le (@Je X4 a b c d e) (Je a b c d e):=by unfold Je;infer_instance
instance (a)(b)(c)(d)(e):Le (@Y6 X4 a b c d e) (Y6 a b c d e):=by unfold Y6;infer_instance
instance (a)(b)(c)(d):Le (@Ha X4 a b c d) (Ha a b c d):=by unfold Ha;infer_instance
instance (a)(b)(c)(d):Le (@Lj X4 a b c d) (Lj a b c d):=by unfold Lj;infer_instance
instance (a):Le (@Hb X4 a) (Hb a):=by unfold Hb;infer_instance
instance (a)(b)(c):Le (@U5 X4 a b c) (U5 a b c):=by unfold U5;infer_instance
instance (a)(b)(c):Le (@V5 X4 a b c) (V5 a b c):=by unfold V5;infer_instance
instance (a)(b)(c)(d)(e)(f)(g)(h):Le (@Bd X4 a b c d e f g h) (Bd a b c d e f g h):=by unfold Bd;infer_instance
instance (a)(b)(c)(d)(e)(f)(g)(h):Le (@Ev X4 a b c d e f g h) (Ev a b c d e f g h):=by unfold Ev;infer_instance
instance (a)(b)(c)(d)(e)(f)(g)(h)(i):Le (@Be X4 a b c d e f g h i) (Be a b c d e f g h i):=by unfold Be;infer_instance
instance (a)(b)(c)(d)(e)(f)(g)(h):Le (@Hc X4 a b c d e f g h) (Hc a b c d e f g h):=by unfold Hc;infer_instance
instance (a)(b)(c)(d)(e)(f)(g)(h):Le (@Cr X4 a b c d e f g h) (Cr a b c d e f g h):=by unfold Cr;infer_instance
instance (a)(b)(c)(d)(e)(f):Le (@Hd X4 a b c d e f) (Hd a b c d e f):=by unfold Hd;infer_instance
instance (a)(b)(c)(d)(e)(f)(g)(h):Le (@Cs X4 a b c d e f g h) (Cs a b c d e f g h):=by unfold Cs;infer_instance
instance (a)(b)(c)(d)(e)(f):Le (@Ct X4 a b c d e f) (Ct a b c d e f):=by unfold Ct;infer_instance
instance (a)(b)(c)(d)(e):Le (@He X4 a b c d e) (He a b c d e):=by unfold He;infer_instance
instance (a)(b)(c)(d):Le (@Cu X4 a b c d) (Cu a b c d):=by unfold Cu;infer_instance
instance (a)(b)(c)(d):Le (@Hf X4 a b c d) (Hf a b c d):=by unfold Hf;infer_instance
instance (a)(b)(c):Le (@Hg X4 a b c) (Hg a b c):=by unfold Hg;infer_instance
instance law04_awake_le:Le (@Jf X4) (Jf):=by unfold Jf;infer_instance
theorem Kj (n:Int): ∃y,Gw n=some (y,y*y==n)∧0≤y∧y≤67108864∧(∀m,0≤m→m<y→m*m<n)∧(y=67108864∨n≤y*y):=by
  have key:=WN (f:=Mt n) (fun x=>0≤x.1∧x.1≤x.2∧x.2≤67108864∧(∀m,0≤m→m<x.1→m*m<n)∧(x.2=67108864∨n≤x.2*x.2)) (fun x=>(x.2 - x.1).toNat)
    (fun y=>0≤y∧y≤67108864∧(∀m,0≤m→m<y→m*m<n)∧(y=67108864∨n≤y*y)) (by
      rintro ⟨lo,hi⟩ ⟨h1,h2,h3,h4,h5⟩;dsimp only at h1 h2 h3 h4 h5;unfold Mt;dsimp only;by_cases hlt:lo<hi
      ·have e1:E5 (lo+hi)=lo+hi:=H4 (by omega);have e2:E5 ((lo+hi).tdiv 2)=(lo+hi) / 2:=by rw [wP (by omega)];exact H4 (by omega)
       have hm:lo≤(lo+hi) / 2∧(lo+hi) / 2<hi:=by omega
       generalize hmid:(lo+hi) / 2=mid at*;have hmm:mid*mid≤67108864*67108864:=dO (by omega) (by omega);have hmm0:=Ts mid;have e3:E5 (mid*mid)=mid*mid:=H4 (by omega);have e4:E5 (mid+1)=mid+1:=H4 (by omega);simp only [e1,e2,e3,e4,hlt,decide_true,bM];by_cases hc:mid*mid<n
       ·simp only [hc,decide_true,bM];refine ⟨_,rfl,⟨by omega,by omega,h3,fun m hm0 hm1=> ?_,h5⟩,by dsimp only;omega⟩;rcases Int.lt_or_le m mid with q|q
        ·have:=Int.mul_le_mul (show m≤mid by omega) (show m≤mid by omega) hm0 (by omega);omega
        ·have:m=mid:=by dsimp only at hm1;omega
         subst this;exact hc
       ·simp only [hc,decide_false,bN];exact ⟨_,rfl,⟨h1,by dsimp only;omega,by dsimp only;omega,h4, .inr (by dsimp only;omega)⟩,by dsimp only;omega⟩
      ·simp only [hlt,decide_false,bN];obtain rfl:lo=hi:=by omega
       exact ⟨_,rfl,h1,h3,h4,h5⟩) (0,67108864) ⟨by decide,by decide,by decide,fun m h1 h2=>by dsimp only at h2;omega, .inl rfl⟩
  obtain ⟨y,hy,h1,h2,h3,h4⟩:=key;refine ⟨y,?_,h1,h2,h3,h4⟩;have hmm:y*y≤67108864*67108864:=dO (by omega) (by omega);have hmm0:=Ts y;unfold Gw;rw [hy,lB,H4 (by omega)]
noncomputable def rt (n:Int):Int:=(Kj n).choose
theorem EL (n:Int):Gw n=some (rt n,rt n*rt n==n):=(Kj n).choose_spec.1
theorem JH (n:Int):0≤rt n:=(Kj n).choose_spec.2.1
theorem vT (n m:Int)(h1:0≤m)(h2:m<rt n):m*m<n:=(Kj n).choose_spec.2.2.2.1 m h1 h2
theorem vU (n:Int):rt n=67108864∨n≤rt n*rt n:=(Kj n).choose_spec.2.2.2.2
theorem nD {l:Int}(h0:0≤l)(h1:l≤67108864):rt (l*l)=l:=by
  rcases Int.lt_trichotomy (rt (l*l)) l with q|q|q
  ·rcases vU (l*l)with h|h
   ·omega
   ·have h2:=JH (l*l);have:=Int.mul_lt_mul' (show rt (l*l)≤l by omega) q h2 (by omega);omega
  ·exact q
  ·have:=vT (l*l) l h0 q;omega
theorem LN (n:Int)(h0:0≤n)(h1:n<18014398509481984): ∃r,Ll n=some r∧0≤r∧r<134217728∧r*r≤n∧n< (r+1)* (r+1):=by
  have key:=WN (f:=Mv n) (fun x=>0≤x.1∧x.1*x.1≤n∧((∃k:Nat,k≤26∧x.2=2^k∧x.1+2*2^k≤134217728∧n< (x.1+2*2^k)* (x.1+2*2^k))∨(x.2=0∧x.1<134217728∧n< (x.1+1)* (x.1+1)))) (fun x=>x.2.toNat)
    (fun r=>0≤r∧r<134217728∧r*r≤n∧n< (r+1)* (r+1)) (by
      rintro ⟨r,bit⟩ ⟨q1,q2,q3⟩;dsimp only at q1 q2 q3;unfold Mv;dsimp only;rcases q3 with ⟨k,hk,rfl,q4,q5⟩|⟨rfl,q4,q5⟩
      ·have hp:(0:Int)<2^k:=Int.pow_pos (by decide);generalize hb:(2:Int)^k=b at*;have e1:E5 (r+b)=r+b:=H4 (by omega);have hmm:(r+b)* (r+b)≤134217728*134217728:=dO (by omega) (by omega);have hmm0:=Ts (r+b);have e2:E5 ((r+b)* (r+b))=(r+b)* (r+b):=H4 (by omega);have e3:E5 (b.tdiv 2)=b / 2:=by rw [wP (by omega)];exact H4 (by omega)
       have hb0:b>0:=by omega
       simp only [e1,e2,e3,hb0,decide_true,bM]
       have hnext: ∀r',0≤r'→r'*r'≤n→r'+b≤134217728→n< (r'+b)* (r'+b)→(∃j:Nat,j≤26∧b / 2=2^j∧r'+2*2^j≤134217728∧n< (r'+2*2^j)* (r'+2*2^j))∨(b / 2=0∧r'<134217728∧n< (r'+1)* (r'+1)):=by
         intro r' a1 a2 a3 a4;cases k with
         |zero=>
          have:b=1:=by rw [← hb];rfl
          subst this;exact .inr ⟨by decide,by omega,a4⟩
         |succ j=>
          have hj:b=2*2^j:=by rw [← hb,Int.pow_succ];omega
          refine .inl ⟨j,by omega,by omega,by omega,by rw [← hj];exact a4⟩
       by_cases hc:(r+b)* (r+b)≤n
       ·simp only [hc,decide_true,bM];refine ⟨_,rfl,⟨by dsimp only;omega,hc,hnext (r+b) (by omega) hc (by omega) (by rw [show r+b+b=r+2*b by omega];exact q5)⟩,by dsimp only;omega⟩
       ·simp only [hc,decide_false,bN];exact ⟨_,rfl,⟨q1,q2,hnext r q1 q2 (by omega) (by omega)⟩,by dsimp only;omega⟩
      ·simp only [show ¬(0:Int)>0 by decide,decide_false,bN]
       exact ⟨_,rfl,q1,q4,q2,q5⟩) (0,67108864) ⟨by decide,by dsimp only;omega, .inl ⟨26,by decide,by decide,by decide,by dsimp only;omega⟩⟩
  obtain ⟨r,hr,a⟩:=key;exact ⟨r,by unfold Ll;rw [hr];rfl,a⟩
theorem QO {n:Int}(h0:0≤n)(h1:n≤4503599627370496): ∃r,Ll n=some r∧0≤r∧r<134217728∧(r*r=n↔rt n*rt n=n)∧(r*r=n→r=rt n):=by
  obtain ⟨r,hr,a1,a2,a3,a4⟩:=LN n h0 (by omega)
  have hr26:r≤67108864:=by
    rcases Int.lt_or_le r 67108865 with q|q
    ·omega
    ·have:=Int.mul_le_mul q q (by decide) (by omega);omega
  refine ⟨r,hr,a1,a2,⟨fun h=> ?_,fun h=> ?_⟩,fun h=> ?_⟩
  ·rw [← h,nD a1 hr26]
  ·rcases Int.lt_trichotomy r (rt n)with q|q|q
   ·have:=Int.mul_le_mul (show r+1≤rt n by omega) (show r+1≤rt n by omega) (by omega) (JH n);omega
   ·rw [q];exact h
   ·have h2:=JH n;have:=Int.mul_lt_mul' (show rt n≤r by omega) q h2 (by omega);omega
  ·rw [← h,nD a1 hr26]
def Zc (p:Spot):Bool:=decide (-16777216≤p.X)&&decide (p.X≤16777216)&&decide (-16777216≤p.Y)&&decide (p.Y≤16777216)
theorem okS_iff {p:Spot}:Zc p=true↔ -16777216≤p.X∧p.X≤16777216∧ -16777216≤p.Y∧p.Y≤16777216:=by simp [Zc,and_assoc]
theorem gI (p:Spot):((decide ((Xb false p.X p.Y)< (-16777216)))||(decide ((Xb true p.X p.Y)>16777216)))= !Zc p:=by
  rw [Qz,Wa];cases h:Zc p with
  |true=>have:=okS_iff.1 h;simp;omega
  |false=>
   have: ¬(-16777216≤p.X∧p.X≤16777216∧ -16777216≤p.Y∧p.Y≤16777216):=fun q=>by rw [okS_iff.2 q]at h;cases h
   simp;omega
theorem QP (l:List Spot)(hl:l.length≤1000000): ∀(r:List Spot) (i:Nat),l.drop i=r→loop (Gv l) (i:Int)=some (if r.all Zc then .inl ()else .inr false):=by
  intro r
  induction r with
  |nil=>
   intro i hi;have:=P3 hi;refine D3 ?_;unfold Gv;simp only [show ¬(i:Int)<l.length by omega,decide_false,bN,List.all_nil,if_true]
  |cons p r ih=>
   intro i hi;have hlt:=O3 hi
   have hstep:Gv l (i:Int)=if Zc p then some (.go ((i+1:Nat):Int))else some (.out (.inr false)):=by
     unfold Gv;simp only [show (i:Int)<l.length by omega,decide_true,bM,Db hi,lB,gI];cases h:Zc p with
     |true=>simp only [bU,bN,if_true];rw [H4 (by omega)];rfl
     |false=>simp
   cases h:Zc p with
   |true=>
    rw [h,bO rfl]at hstep;rw [K1 hstep,ih (i+1) (L4 hi)];simp [h]
   |false=>
    rw [h]at hstep;rw [D3 hstep];simp [h]
theorem QQ (l:List Spot)(hl:l.length≤1000000):Ld l=some (l.all Zc):=by
  unfold Ld;have:=QP l hl l 0 (by simp);rw [show ((0:Nat):Int)=0 from rfl]at this;rw [this];cases l.all Zc<;>rfl
theorem OO (p:Spot):Rw p=some (Zc p):=by
  unfold Rw Zc;rfl
def T5 (p q:Spot):CurveVector:=⟨q.X - p.X,q.Y - p.Y⟩
def O4 (v w:CurveVector):Int:=v.x*w.x+v.y*w.y
def iY (v:CurveVector):Prop:= -33554432≤v.x∧v.x≤33554432∧ -33554432≤v.y∧v.y≤33554432
theorem HS {p q:Spot}(hp:Zc p=true)(hq:Zc q=true):iY (T5 p q):=by
  have:=okS_iff.1 hp;have:=okS_iff.1 hq;unfold iY T5;dsimp only;omega
theorem EM {p q:Spot}(hp:Zc p=true)(hq:Zc q=true):Qg p q=some (T5 p q):=by
  have:=okS_iff.1 hp;have:=okS_iff.1 hq;unfold Qg T5;rw [H4 (by omega),H4 (by omega)]
theorem aQ {v w:CurveVector}(hv:iY v)(hw:iY w): -2251799813685248≤O4 v w∧O4 v w≤2251799813685248∧(-1125899906842624≤v.x*w.x∧v.x*w.x≤1125899906842624)∧ -1125899906842624≤v.y*w.y∧v.y*w.y≤1125899906842624:=by
  obtain ⟨a1,a2,a3,a4⟩:=hv;obtain ⟨b1,b2,b3,b4⟩:=hw;have h1:=mM ⟨a1,a2⟩ ⟨b1,b2⟩;have h2:=mM ⟨a3,a4⟩ ⟨b3,b4⟩;unfold O4;omega
theorem Zd {v w:CurveVector}(hv:iY v)(hw:iY w):Cc v w=some (O4 v w):=by
  have h:=aQ hv hw;unfold Cc;rw [H4 (n:=v.x*w.x) (by omega),H4 (n:=v.y*w.y) (by omega),H4 (by unfold O4 at h;omega)];rfl
theorem aR (v:CurveVector):0≤O4 v v:=by have:=Ts v.x;have:=Ts v.y;unfold O4;omega
def vs (v:CurveVector):Spot:=⟨v.x,v.y⟩
theorem Ve {p q:Spot}(hp:Zc p=true)(hq:Zc q=true):Lk q p=some (vs (T5 p q)):=by
  have:=okS_iff.1 hp;have:=okS_iff.1 hq;unfold Lk T5 vs;rw [H4 (by omega),H4 (by omega)]
theorem Ze {v w:CurveVector}(hv:iY v)(hw:iY w):Nt (vs v) (vs w)=some (O4 v w):=by
  have h:=aQ hv hw;unfold Nt vs;dsimp only;rw [H4 (n:=v.x*w.x) (by omega),H4 (n:=v.y*w.y) (by omega),H4 (by unfold O4 at h;omega)];rfl
noncomputable def XF:Option CurveVector→List Spot→Int
  |last,p::q::r=>
   if rt (O4 (T5 p q) (T5 p q))*rt (O4 (T5 p q) (T5 p q))≠O4 (T5 p q) (T5 p q)then 3
   else if rt (O4 (T5 p q) (T5 p q))<1000∨rt (O4 (T5 p q) (T5 p q))>1048576 then 2
   else match last with
     |some u=>if O4 u (T5 p q)≤0 then 12 else XF (some (T5 p q)) (q::r)
     |none=>XF (some (T5 p q)) (q::r)
  |_,_=>0
theorem HT (last:Option CurveVector)(p q:Spot)(r:List Spot):XF last (p::q::r)=
    if rt (O4 (T5 p q) (T5 p q))*rt (O4 (T5 p q) (T5 p q))≠O4 (T5 p q) (T5 p q)then 3
    else if rt (O4 (T5 p q) (T5 p q))<1000∨rt (O4 (T5 p q) (T5 p q))>1048576 then 2
    else match last with
      |some u=>if O4 u (T5 p q)≤0 then 12 else XF (some (T5 p q)) (q::r)
      |none=>XF (some (T5 p q)) (q::r):=by
  conv=>lhs;unfold XF
noncomputable def Dq (l:List Spot):Int:=if l.length<2 then 6 else if l.length>16 then 5 else if l.all Zc then XF none l else 2
theorem OP (c:Curve)(hl:c.Pts.length≤1000000)(hok:c.Pts.all Zc=true): ∀(r:List Spot) (p:Spot) (i:Nat) (last:CurveVector),c.Pts.drop i=p::r→iY last→
    loop (Z9 c) ((i:Int),last)=some (if XF (if i=0 then none else some last) (p::r)=0 then .inl ()else .inr (XF (if i=0 then none else some last) (p::r))):=by
  intro r
  induction r with
  |nil=>
   intro p i last hi hlast;have hlt:=O3 hi;have:=P3 (L4 hi);refine D3 ?_;unfold Z9;dsimp only;rw [H4 (n:=(c.Pts.length:Int) - 1) (by omega)];simp only [show ¬(i:Int)< (c.Pts.length:Int) - 1 by omega,decide_false,bN,XF,if_true]
  |cons q r ih=>
   intro p i last hi hlast;have hlt:=O3 hi;have hi1:=L4 hi;have hlt1:=O3 hi1;have hp:Zc p=true:=lY.1 hok p (List.mem_of_mem_drop (i:=i) (by rw [hi];simp));have hq:Zc q=true:=lY.1 hok q (List.mem_of_mem_drop (i:=i) (by rw [hi];simp));have hv:=HS hp hq;have hg1:C4 c.Pts ((i:Int)+1)=some q:=by have:=Db hi1;simpa using this
   have hstep:Z9 c ((i:Int),last)=
    if rt (O4 (T5 p q) (T5 p q))*rt (O4 (T5 p q) (T5 p q))≠O4 (T5 p q) (T5 p q)then some (.out (.inr 3))
    else if rt (O4 (T5 p q) (T5 p q))<1000∨rt (O4 (T5 p q) (T5 p q))>1048576 then some (.out (.inr 2))
    else if i≠0∧O4 last (T5 p q)≤0 then some (.out (.inr 12))else some (.go (((i+1:Nat):Int),T5 p q)):=by
     unfold Z9;dsimp only;rw [H4 (n:=(c.Pts.length:Int) - 1) (by omega),H4 (n:=(i:Int)+1) (by omega)];simp only [show (i:Int)< (c.Pts.length:Int) - 1 by omega,decide_true,bM,Db hi,hg1,lB,EM hp hq,Zd hv hv,EL];by_cases h1:rt (O4 (T5 p q) (T5 p q))*rt (O4 (T5 p q) (T5 p q))=O4 (T5 p q) (T5 p q)
     ·simp only [h1,beq_self_eq_true,bU,bN,ne_eq,not_true_eq_false,if_false];by_cases h2:rt (O4 (T5 p q) (T5 p q))<1000∨rt (O4 (T5 p q) (T5 p q))>1048576
      ·rw [bO h2];have:(decide (rt (O4 (T5 p q) (T5 p q))<1000)||decide (rt (O4 (T5 p q) (T5 p q))>1048576))=true:=by simpa using h2
       rw [this];rfl
      ·rw [bP h2];have:(decide (rt (O4 (T5 p q) (T5 p q))<1000)||decide (rt (O4 (T5 p q) (T5 p q))>1048576))=false:=by simpa using h2
       rw [this];simp only [bN];by_cases h3:i=0
       ·subst h3;simp only [Int.natCast_zero,gt_iff_lt,Int.lt_irrefl,decide_false,bN,bR,lB,not_true_eq_false,false_and,if_false];rfl
       ·have h4:(i:Int)>0:=by omega
        simp only [h4,decide_true,bM,Zd hlast hv,lB,bQ,h3,not_false_eq_true,true_and];by_cases h5:O4 last (T5 p q)≤0<;>simp [h5]
     ·have:(rt (O4 (T5 p q) (T5 p q))*rt (O4 (T5 p q) (T5 p q))==O4 (T5 p q) (T5 p q))=false:=by simpa using h1
      simp only [this,bV,bM,ne_eq,h1,not_false_eq_true,if_true]
   rw [HT];by_cases h1:rt (O4 (T5 p q) (T5 p q))*rt (O4 (T5 p q) (T5 p q))≠O4 (T5 p q) (T5 p q)
   ·rw [bO h1]at hstep;rw [D3 hstep,bO h1];rfl
   ·rw [bP h1]at hstep ⊢;by_cases h2:rt (O4 (T5 p q) (T5 p q))<1000∨rt (O4 (T5 p q) (T5 p q))>1048576
    ·rw [bO h2]at hstep;rw [D3 hstep,bO h2];rfl
    ·rw [bP h2]at hstep ⊢;by_cases h3:i=0
     ·subst h3;rw [bP (by simp)]at hstep;rw [K1 hstep,ih q (0+1) (T5 p q) hi1 hv];simp
     ·by_cases h5:O4 last (T5 p q)≤0
      ·rw [bO ⟨h3,h5⟩]at hstep;rw [D3 hstep];simp [h3,h5]
      ·rw [bP (fun h=>h5 h.2)]at hstep;rw [K1 hstep,ih q (i+1) (T5 p q) hi1 hv];simp [h3,h5]
theorem CF (c:Curve)(hl:c.Pts.length≤1000000):Ga c=some (Dq c.Pts):=by
  unfold Ga Dq;by_cases h1:c.Pts.length<2
  ·rw [bO h1,show decide ((c.Pts.length:Int)<2)=true by simp;omega];rfl
  ·rw [bP h1,show decide ((c.Pts.length:Int)<2)=false by simp;omega];simp only [bN];by_cases h2:c.Pts.length>16
   ·rw [bO h2,show decide ((c.Pts.length:Int)>16)=true by simp;omega];rfl
   ·rw [bP h2,show decide ((c.Pts.length:Int)>16)=false by simp;omega];simp only [bN,QQ c.Pts hl,lB];cases h3:c.Pts.all Zc with
    |false=>rfl
    |true=>
     simp only [bU,bN,if_true];cases hp:c.Pts with
     |nil=>rw [hp]at h1;simp at h1
     |cons p r=>
      have:=OP c hl h3 r p 0 ⟨0,0⟩ (by rw [hp];rfl) ⟨by decide,by decide,by decide,by decide⟩;rw [bO rfl,show ((0:Nat):Int)=0 from rfl]at this;rw [this];by_cases h4:XF none (p::r)=0
      ·rw [bO h4,h4];rfl
      ·rw [bP h4];rfl
theorem gJ (v w:CurveVector):O4 v w=O4 w v:=by unfold O4;rw [Int.mul_comm v.x,Int.mul_comm v.y]
theorem LO (c:Curve)(hl:c.Pts.length≤1000000): ∀(r:List Spot) (i:Nat),c.Pts.drop i=r→loop (Ey c) (i:Int)=some (if r.all Zc then .inl ()else .inr 2):=by
  intro r
  induction r with
  |nil=>
   intro i hi;have:=P3 hi;refine D3 ?_;unfold Ey;simp only [show ¬(i:Int)<c.Pts.length by omega,decide_false,bN,List.all_nil,if_true]
  |cons p r ih=>
   intro i hi;have hlt:=O3 hi
   have hstep:Ey c (i:Int)=if Zc p then some (.go ((i+1:Nat):Int))else some (.out (.inr 2)):=by
     unfold Ey;simp only [show (i:Int)<c.Pts.length by omega,decide_true,bM,Db hi,lB,OO];cases h:Zc p with
     |true=>simp only [bU,bN,if_true];rw [H4 (by omega)];rfl
     |false=>simp
   cases h:Zc p with
   |true=>
    rw [h,bO rfl]at hstep;rw [K1 hstep,ih (i+1) (L4 hi)];simp [h]
   |false=>
    rw [h]at hstep;rw [D3 hstep];simp [h]
theorem nE {v:CurveVector}(hv:iY v): ∃l,Ll (O4 v v)=some l∧(E5 (l*l) !=O4 v v)= !(rt (O4 v v)*rt (O4 v v)==O4 v v)∧(rt (O4 v v)*rt (O4 v v)=O4 v v→l=rt (O4 v v)):=by
  have hb:=aQ hv hv;obtain ⟨l,h1,h2,h3,h4,h5⟩:=QO (aR v) (by omega);have hmm:l*l≤134217728*134217728:=dO (by omega) (by omega);have hmm0:=Ts l;refine ⟨l,h1,?_,fun h=>h5 (h4.2 h)⟩;rw [H4 (by omega)];by_cases h:l*l=O4 v v
  ·simp [h,h4.1 h]
  ·have h': ¬rt (O4 v v)*rt (O4 v v)=O4 v v:=fun q=>h (h4.2 q);have e1:(l*l !=O4 v v)=true:=bne_iff_ne.2 h;have e2:(rt (O4 v v)*rt (O4 v v)==O4 v v)=false:=beq_eq_false_iff_ne.2 h';rw [e1,e2];rfl
theorem LP (c:Curve)(hl:c.Pts.length≤1000000)(hok:c.Pts.all Zc=true): ∀(r:List Spot) (p:Spot) (i:Nat) (last:Option CurveVector),c.Pts.drop i=p::r→
    (i=0∧last=none∨∃j a,i=j+1∧c.Pts.drop j=a::p::r∧last=some (T5 a p))→
    loop (Ew c) (i:Int)=some (if XF last (p::r)=0 then .inl ()else .inr (XF last (p::r))):=by
  intro r
  induction r with
  |nil=>
   intro p i last hi hlast;have hlt:=O3 hi;have:=P3 (L4 hi);refine D3 ?_;unfold Ew;rw [H4 (n:=(i:Int)+1) (by omega)];simp only [show ¬(i:Int)+1< (c.Pts.length:Int) by omega,decide_false,bN,XF,if_true]
  |cons q r ih=>
   intro p i last hi hlast;have hlt:=O3 hi;have hi1:=L4 hi;have hlt1:=O3 hi1;have hp:Zc p=true:=lY.1 hok p (List.mem_of_mem_drop (i:=i) (by rw [hi];simp));have hq:Zc q=true:=lY.1 hok q (List.mem_of_mem_drop (i:=i) (by rw [hi];simp));have hv:=HS hp hq;have hg1:C4 c.Pts ((i:Int)+1)=some q:=by have:=Db hi1;simpa using this
   obtain ⟨l,hl1,hl2,hl3⟩:=nE hv
   have hstep:Ew c (i:Int)=
    if rt (O4 (T5 p q) (T5 p q))*rt (O4 (T5 p q) (T5 p q))≠O4 (T5 p q) (T5 p q)then some (.out (.inr 3))
    else if rt (O4 (T5 p q) (T5 p q))<1000∨rt (O4 (T5 p q) (T5 p q))>1048576 then some (.out (.inr 2))
    else match last with
      |some u=>if O4 u (T5 p q)≤0 then some (.out (.inr 12))else some (.go ((i+1:Nat):Int))
      |none=>some (.go ((i+1:Nat):Int)):=by
     unfold Ew;rw [H4 (n:=(i:Int)+1) (by omega)];simp only [show (i:Int)+1< (c.Pts.length:Int) by omega,decide_true,bM,Db hi,hg1,lB,Ve hp hq,Ze hv hv,hl1,hl2];by_cases h1:rt (O4 (T5 p q) (T5 p q))*rt (O4 (T5 p q) (T5 p q))=O4 (T5 p q) (T5 p q)
     ·simp only [h1,beq_self_eq_true,bU,bN,ne_eq,not_true_eq_false,if_false,hl3 h1];by_cases h2:rt (O4 (T5 p q) (T5 p q))<1000∨rt (O4 (T5 p q) (T5 p q))>1048576
      ·rw [bO h2];have:(decide (rt (O4 (T5 p q) (T5 p q))<1000)||decide (rt (O4 (T5 p q) (T5 p q))>1048576))=true:=by simpa using h2
       rw [this];rfl
      ·rw [bP h2];have:(decide (rt (O4 (T5 p q) (T5 p q))<1000)||decide (rt (O4 (T5 p q) (T5 p q))>1048576))=false:=by simpa using h2
       rw [this];simp only [bN];rcases hlast with ⟨rfl,rfl⟩|⟨j,a,rfl,hj,rfl⟩
       ·simp only [Int.natCast_zero,gt_iff_lt,Int.lt_irrefl,decide_false,bN,bR,lB];rfl
       ·have h4:(((j+1:Nat):Int))>0:=by omega
        have ha:Zc a=true:=lY.1 hok a (List.mem_of_mem_drop (i:=j) (by rw [hj];simp));have hva:=HS ha hp
        have hgj:C4 c.Pts (E5 (((j+1:Nat):Int) - 1))=some a:=by
          rw [H4 (by omega),show (((j+1:Nat):Int) - 1)=(j:Int) by omega];exact Db hj
        simp only [h4,decide_true,bM,hgj,lB,Ve ha hp,Ze hv hva,bQ];rw [gJ (T5 p q) (T5 a p)];by_cases h5:O4 (T5 a p) (T5 p q)≤0
        ·simp [h5]
        ·simp [h5]
     ·have:(rt (O4 (T5 p q) (T5 p q))*rt (O4 (T5 p q) (T5 p q))==O4 (T5 p q) (T5 p q))=false:=by simpa using h1
      simp only [this,bV,bM,ne_eq,h1,not_false_eq_true,if_true]
   rw [HT];have hrec:=ih q (i+1) (some (T5 p q)) hi1 (.inr ⟨i,p,rfl,hi,rfl⟩);by_cases h1:rt (O4 (T5 p q) (T5 p q))*rt (O4 (T5 p q) (T5 p q))≠O4 (T5 p q) (T5 p q)
   ·rw [bO h1]at hstep;rw [D3 hstep,bO h1];rfl
   ·rw [bP h1]at hstep ⊢;by_cases h2:rt (O4 (T5 p q) (T5 p q))<1000∨rt (O4 (T5 p q) (T5 p q))>1048576
    ·rw [bO h2]at hstep;rw [D3 hstep,bO h2];rfl
    ·rw [bP h2]at hstep ⊢;cases last with
     |none=>rw [K1 hstep,hrec]
     |some u=>
      dsimp only at hstep ⊢;by_cases h5:O4 u (T5 p q)≤0
      ·rw [bO h5]at hstep;rw [D3 hstep];simp [h5]
      ·rw [bP h5]at hstep;rw [K1 hstep,hrec];simp [h5]
theorem CG (c:Curve)(hl:c.Pts.length≤1000000):Nu c=some (Dq c.Pts):=by
  unfold Nu Dq;by_cases h1:c.Pts.length<2
  ·rw [bO h1,show decide ((c.Pts.length:Int)<2)=true by simp;omega];rfl
  ·rw [bP h1,show decide ((c.Pts.length:Int)<2)=false by simp;omega];simp only [bN];by_cases h2:c.Pts.length>16
   ·rw [bO h2,show decide ((c.Pts.length:Int)>16)=true by simp;omega];rfl
   ·rw [bP h2,show decide ((c.Pts.length:Int)>16)=false by simp;omega];have hg:=LO c hl c.Pts 0 (by simp);rw [show ((0:Nat):Int)=0 from rfl]at hg;simp only [bN,hg];cases h3:c.Pts.all Zc with
    |false=>rfl
    |true=>
     simp only [if_true,thenS];cases hp:c.Pts with
     |nil=>rw [hp]at h1;simp at h1
     |cons p r=>
      have:=LP c hl h3 r p 0 none (by rw [hp];rfl) (.inl ⟨rfl,rfl⟩);rw [show ((0:Nat):Int)=0 from rfl]at this;rw [this];by_cases h4:XF none (p::r)=0
      ·rw [bO h4,h4]
      ·rw [bP h4]
inductive Good:Option CurveVector→List Spot→Prop
  |one (last:Option CurveVector) (p:Spot):Good last [p]
  |cons (last:Option CurveVector) (p q:Spot) (r:List Spot) (h1:rt (O4 (T5 p q) (T5 p q))*rt (O4 (T5 p q) (T5 p q))=O4 (T5 p q) (T5 p q)) (h2:1000≤rt (O4 (T5 p q) (T5 p q))) (h3:rt (O4 (T5 p q) (T5 p q))≤1048576)
     (h4: ∀u,last=some u→0<O4 u (T5 p q)) (h:Good (some (T5 p q)) (q::r)):Good last (p::q::r)
theorem XG: ∀(r:List Spot) (p:Spot) (last:Option CurveVector),XF last (p::r)=0→Good last (p::r):=by
  intro r
  induction r with
  |nil=>intro p last _;exact .one _ _
  |cons q r ih=>
   intro p last h;rw [HT]at h;split at h
   ·cases h
   ·rename_i h1;split at h
    ·cases h
    ·rename_i h2;have h1:rt (O4 (T5 p q) (T5 p q))*rt (O4 (T5 p q) (T5 p q))=O4 (T5 p q) (T5 p q):=by simpa using h1
     cases last with
     |none=>exact .cons _ _ _ _ h1 (by omega) (by omega) (fun u hu=>by cases hu) (ih q _ h)
     |some u=>
      dsimp only at h;split at h
      ·cases h
      ·exact .cons _ _ _ _ h1 (by omega) (by omega) (fun u' hu=>by cases hu;omega) (ih q _ h)
theorem XH {last:Option CurveVector}{l:List Spot}(h:Good last l):XF last l=0:=by
  induction h with
  |one=>rfl
  |cons last p q r h1 h2 h3 h4 h ih=>
   rw [HT,bP (by simpa using h1),bP (by omega)];cases last with
   |none=>exact ih
   |some u=>dsimp only;rw [bP (by have:=h4 u rfl;omega)];exact ih
structure Valid (l:List Spot):Prop where
  two:2≤l.length
  most:l.length≤16
  ok:l.all Zc=true
  good:Good none l
theorem checkM_zero {l:List Spot}:Dq l=0↔Valid l:=by
  unfold Dq;constructor
  ·intro h;split at h
   ·cases h
   ·rename_i h1;split at h
    ·cases h
    ·rename_i h2;split at h
     ·rename_i h3;cases l with
      |nil=>simp at h1
      |cons p r=>exact ⟨by omega,by omega,h3,XG r p none h⟩
     ·cases h
  ·rintro ⟨h1,h2,h3,h4⟩;rw [bP (by omega),bP (by omega),bO h3];exact XH h4
noncomputable def Zf:Nat→Int→List Spot→List (Int×CurvePiece)
  |i,s,p::q::r=>((i:Int),⟨p,T5 p q,rt (O4 (T5 p q) (T5 p q)),s⟩)::Zf (i+1) (E5 (s+rt (O4 (T5 p q) (T5 p q)))) (q::r)
  |_,_,_=> []
theorem HU (i:Nat)(s:Int)(p q:Spot)(r:List Spot):Zf i s (p::q::r)=((i:Int),⟨p,T5 p q,rt (O4 (T5 p q) (T5 p q)),s⟩)::Zf (i+1) (E5 (s+rt (O4 (T5 p q) (T5 p q)))) (q::r):=by conv=>lhs;unfold Zf
theorem XI (pts:List Spot)(hok:pts.all Zc=true): ∀(r:List Spot) (p:Spot) (i:Nat) (s:Int),pts.drop i=p::r→Ka pts r.length i s=some (Zf i s (p::r)):=by
  intro r
  induction r with
  |nil=>intro p i s _;rfl
  |cons q r ih=>
   intro p i s hi;have hi1:=L4 hi;have hp:Zc p=true:=lY.1 hok p (List.mem_of_mem_drop (i:=i) (by rw [hi];simp));have hq:Zc q=true:=lY.1 hok q (List.mem_of_mem_drop (i:=i) (by rw [hi];simp));have hv:=HS hp hq;have h0:pts[i]? =some p:=by have:=congrArg (fun z=>z[0]?) hi;simpa using this
   have h1:pts[i+1]? =some q:=by have:=congrArg (fun z=>z[0]?) hi1;simpa using this
   rw [lL,Ka,h0,h1];simp only [lB,EM hp hq,Zd hv hv,EL];rw [ih q (i+1) _ hi1,HU];rfl
theorem aS {pts:List Spot}(h:Valid pts):We pts=some (Zf 0 0 pts):=by
  unfold We;have:=h.most;rw [bO (by omega)];cases hp:pts with
  |nil=>have:=h.two;rw [hp]at this;simp at this
  |cons p r=>exact XI (p::r) (by rw [← hp];exact h.ok) r p 0 0 rfl
noncomputable def DS:List Spot→List Int
  |p::q::r=>rt (O4 (T5 p q) (T5 p q))::DS (q::r)
  |_=> []
theorem Xu (p q:Spot)(r:List Spot):DS (p::q::r)=rt (O4 (T5 p q) (T5 p q))::DS (q::r):=by conv=>lhs;unfold DS
theorem Wg: ∀(r:List Spot) (p:Spot),(DS (p::r)).length=r.length
  | [],_=>rfl
  |q::r,p=>by rw [Xu,lL,Wg r q,lL]
theorem HV: ∀(r:List Spot) (p:Spot) (i:Nat) (s:Int),(Zf i s (p::r)).map (·.2.l)=DS (p::r)
  | [],_,_,_=>rfl
  |q::r,p,i,s=>by rw [HU,Xu,lR,HV r q]
theorem XJ: ∀(L:List (Int×CurvePiece)) (out:List Int),out.length+L.length≤1000000000→loopL Fv (fun x=>x) L out=some (out++L.map (·.2.l)):=by
  intro L
  induction L with
  |nil=>intro out _;simp [loopL]
  |cons a L ih=>
   intro out h;simp only [lL]at h
   have:Fv out a=some (.go (out++ [a.2.l])):=by
     unfold Fv;rw [Ia (by simp;omega)];rfl
   rw [loopL,this];dsimp only;rw [ih _ (by simp;omega)];simp
theorem LQ (c:Curve)(hl:c.Pts.length≤1000000):Gb c=some (if Dq c.Pts=0 then DS c.Pts else []):=by
  unfold Gb;rw [CF c hl,lB];by_cases h:Dq c.Pts=0
  ·rw [bO h,h];have hv:=checkM_zero.1 h;have:=hv.most;simp only [bne_self_eq_false,bN,aS hv,lB];cases hp:c.Pts with
   |nil=>have:=hv.two;rw [hp]at this;simp at this
   |cons p r=>
    have e:=HV r p 0 0
    rw [XJ _ _ (by
     have:=congrArg List.length e;rw [lS,Wg]at this
     rw [this];rw [hp]at hl;simp at hl ⊢;omega)]
    rw [e];rfl
  ·rw [bP h,show (Dq c.Pts !=0)=true from bne_iff_ne.2 h];rfl
theorem HW (c:Curve)(hl:c.Pts.length≤1000000)(hok:c.Pts.all Zc=true): ∀(r:List Spot) (p:Spot) (i:Nat) (out:List Int) (last:Option CurveVector),c.Pts.drop i=p::r→Good last (p::r)→out.length+r.length≤1000000→
    loop (Dn c) (out,(i:Int))=some (out++DS (p::r)):=by
  intro r
  induction r with
  |nil=>
   intro p i out last hi _ _;have hlt:=O3 hi;have:=P3 (L4 hi);refine D3 ?_;unfold Dn;dsimp only;rw [H4 (n:=(i:Int)+1) (by omega)];simp only [show ¬(i:Int)+1< (c.Pts.length:Int) by omega,decide_false,bN,DS,lP]
  |cons q r ih=>
   intro p i out last hi hg ho;have hlt:=O3 hi;have hi1:=L4 hi;have hlt1:=O3 hi1;have hp:Zc p=true:=lY.1 hok p (List.mem_of_mem_drop (i:=i) (by rw [hi];simp));have hq:Zc q=true:=lY.1 hok q (List.mem_of_mem_drop (i:=i) (by rw [hi];simp));have hv:=HS hp hq;have hg1:C4 c.Pts ((i:Int)+1)=some q:=by have:=Db hi1;simpa using this
   obtain ⟨l,hl1,hl2,hl3⟩:=nE hv;cases hg with
   |cons _ _ _ _ h1 h2 h3 h4 hg=>
    have hll:=hl3 h1;subst hll;simp only [lL]at ho
    have hstep:Dn c (out,(i:Int))=some (.go (out++ [rt (O4 (T5 p q) (T5 p q))],((i+1:Nat):Int))):=by
      unfold Dn;dsimp only;rw [H4 (n:=(i:Int)+1) (by omega)];simp only [show (i:Int)+1< (c.Pts.length:Int) by omega,decide_true,bM,Db hi,hg1,lB,Ve hp hq,Ze hv hv,hl1];rw [Ia (by simp;omega)];rfl
    rw [K1 hstep,ih q (i+1) _ _ hi1 hg (by simp;omega),Xu];simp
theorem LR (c:Curve)(hl:c.Pts.length≤1000000):Pb c=some (if Dq c.Pts=0 then DS c.Pts else []):=by
  unfold Pb;rw [CG c hl,lB];by_cases h:Dq c.Pts=0
  ·rw [bO h,h];have hv:=checkM_zero.1 h;simp only [bne_self_eq_false,bN];cases hp:c.Pts with
   |nil=>have:=hv.two;rw [hp]at this;simp at this
   |cons p r=>
    have:=HW c hl hv.ok r p 0 [] none (by rw [hp];rfl) (by rw [← hp];exact hv.good) (by rw [hp]at hl;simp at hl ⊢;omega);rw [show ((0:Nat):Int)=0 from rfl]at this;rw [this];rfl
  ·rw [bP h,show (Dq c.Pts !=0)=true from bne_iff_ne.2 h];rfl
def FV:Int→List Int→Int
  |s,[]=>s
  |s,a::l=>FV (E5 (s+a)) l
theorem HX (l:List Int)(hl:l.length≤1000000): ∀(r:List Int) (i:Nat) (s:Int),l.drop i=r→loop (Bn l) (s,(i:Int))=some (FV s r):=by
  intro r
  induction r with
  |nil=>
   intro i s hi;have:=P3 hi;refine D3 ?_;unfold Bn;simp only [show ¬(i:Int)<l.length by omega,decide_false,bN,FV]
  |cons a r ih=>
   intro i s hi;have hlt:=O3 hi
   have hstep:Bn l (s,(i:Int))=some (.go (E5 (s+a),((i+1:Nat):Int))):=by
     unfold Bn;simp only [show (i:Int)<l.length by omega,decide_true,bM,Db hi,lB];rw [H4 (n:=(i:Int)+1) (by omega)];rfl
   rw [K1 hstep,ih (i+1) _ (L4 hi),FV]
theorem HY (l:List Int)(hl:l.length≤1000000): ∀(r:List Int) (i:Nat) (s:Int),l.drop i=r→loop (Bq l) (s,(i:Int))=some (FV s r):=by
  intro r
  induction r with
  |nil=>
   intro i s hi;have:=P3 hi;refine D3 ?_;unfold Bq;simp only [show ¬(i:Int)<l.length by omega,decide_false,bN,FV]
  |cons a r ih=>
   intro i s hi;have hlt:=O3 hi
   have hstep:Bq l (s,(i:Int))=some (.go (E5 (s+a),((i+1:Nat):Int))):=by
     unfold Bq;simp only [show (i:Int)<l.length by omega,decide_true,bM,Db hi,lB];rw [H4 (n:=(i:Int)+1) (by omega)];rfl
   rw [K1 hstep,ih (i+1) _ (L4 hi),FV]
noncomputable def Nh (c:Curve):List Int:=if Dq c.Pts=0 then DS c.Pts else []
theorem rU: ∀l:List Spot,(DS l).length≤l.length
  | []=>by simp [DS]
  |p::r=>by rw [Wg];simp
theorem OQ (c:Curve):(Nh c).length≤c.Pts.length:=by
  unfold Nh;split
  ·exact rU _
  ·simp
theorem AA (c:Curve)(hl:c.Pts.length≤1000000):Dw c=some (FV 0 (Nh c)):=by
  unfold Dw;rw [LQ c hl,lB];have:=OQ c;have h:=HX (Nh c) (by omega) (Nh c) 0 0 (by simp);rw [show ((0:Nat):Int)=0 from rfl]at h;show (loop (Bn (Nh c)) (0,0)).bind _=_;rw [h];rfl
theorem LS (c:Curve)(hl:c.Pts.length≤1000000):Gm c=some (FV 0 (Nh c)):=by
  unfold Gm;rw [LR c hl,lB];have:=OQ c;have h:=HY (Nh c) (by omega) (Nh c) 0 0 (by simp);rw [show ((0:Nat):Int)=0 from rfl]at h;show (loop (Bq (Nh c)) (0,0)).bind _=_;rw [h];rfl
def gK:Nat→CurveVector→CurveVector
  |0,v=>v
  |n+1,v=>gK n ⟨-v.y,v.x⟩
theorem UM: ∀(n:Nat) (v w:CurveVector),O4 (gK n v) (gK n w)=O4 v w
  |0,_,_=>rfl
  |n+1,v,w=>by rw [gK,gK,UM n];unfold O4;grind
def vV (n:Nat)(v:CurveVector):Prop:= ∃x y L:Int,v=gK n ⟨x,y⟩∧0<x∧0≤y∧x*x+y*y=L*L∧1000≤L∧L≤3029∧x≤L∧y≤L
inductive Ch (Q:CurveVector→Prop):List Spot→Prop
  |one (p:Spot):Ch Q [p]
  |cons (p q:Spot) (r:List Spot) (h:Q (T5 p q)) (hr:Ch Q (q::r)):Ch Q (p::q::r)
theorem OS {n:Nat}: ∀(r:List Spot) (p:Spot) (last:Option CurveVector),Ch (vV n) (p::r)→(∀u,last=some u→vV n u)→Good last (p::r)
  | [],p,last,_,_=> .one _ _
  |q::r,p,last,hc,hl=>by
   cases hc with
   |cons _ _ _ h1 h2=>
    have hq:=h1;obtain ⟨x,y,L,hv,hx,hy,hsq,hL1,hL2,hxL,hyL⟩:=h1;have hd:O4 (T5 p q) (T5 p q)=L*L:=by rw [hv,UM];unfold O4;exact hsq
    have hrt:rt (O4 (T5 p q) (T5 p q))=L:=by rw [hd];exact nD (by omega) (by omega)
    refine .cons _ _ _ _ (by rw [hrt,hd]) (by rw [hrt];exact hL1) (by rw [hrt];omega) (fun u hu=> ?_) (OS r q _ h2 (fun u hu=>by cases hu;exact hq));obtain ⟨x',y',L',hv',hx',hy',_⟩:=hl u hu;rw [hv,hv',UM];unfold O4;have:=Int.mul_pos hx' hx;have:=wO hy' hy;dsimp only;omega
structure Made (l:List Spot):Prop where
  two:2≤l.length
  six:l.length≤6
  ch: ∃n,Ch (vV n) l
  bd: ∀p∈l, -50000≤p.X∧p.X≤50000∧ -50000≤p.Y∧p.Y≤50000
theorem Made.valid {l:List Spot}(h:Made l):Valid l:=by
  obtain ⟨n,hc⟩:=h.ch;have:=h.two;have:=h.six;refine ⟨h.two,by omega,lY.2 fun p hp=>okS_iff.2 (by have:=h.bd p hp;omega),?_⟩
  match l,h,hc with
  |p::r,_,hc=>exact OS r p none hc (fun u hu=>by cases hu)
  | [],h,_=>exact absurd h.two (by simp)
def J0 {α β:Type}(g:Nat→α→Option β):Nat→List α→Option β
  |_,[]=>none
  |i,a::r=>match g i a with
   |some e=>some e
   |none=>J0 g (i+1) r
def LU {β:Type}:Option β→Sum Unit β
  |some e=> .inr e
  |none=> .inl ()
theorem Z7 {α β:Type}(l:List α)(F:Int→Option (Stp Int (Sum Unit β)))(g:Nat→α→Option β)(hF: ∀(i:Nat) a,l[i]? =some a→F (i:Int)=some (match g i a with|some e=> .out (.inr e)|none=> .go ((i+1:Nat):Int)))(h0:F (l.length:Int)=some (.out (.inl ()))):
    loop F 0=some (LU (J0 g 0 l)):=by
  have key: ∀(r:List α) (i:Nat),l.drop i=r→i≤l.length→loop F (i:Int)=some (LU (J0 g i r)):=by
    intro r
    induction r with
    |nil=>
     intro i hi hil;have:i=l.length:=by have:=List.drop_eq_nil_iff.1 hi;omega
     subst this;exact D3 h0
    |cons a r ih=>
     intro i hi hil
     have hlt:i<l.length:=by
       rcases Nat.lt_or_ge i l.length with q|q
       ·exact q
       ·rw [List.drop_eq_nil_of_le q]at hi;cases hi
     have ha:l[i]? =some a:=by have:=congrArg (fun z=>z[0]?) hi;simpa using this
     have hr:l.drop (i+1)=r:=by have:=congrArg (fun z=>z.drop 1) hi;simpa using this
     have hs:=hF i a ha;unfold J0;cases hg:g i a with
     |some e=>rw [hg]at hs;exact D3 hs
     |none=>rw [hg]at hs;rw [K1 hs];exact ih (i+1) hr (by omega)
  have:=key l 0 rfl (by omega);exact this
theorem firstE_none {α β:Type}{g:Nat→α→Option β}: ∀{l:List α} {i:Nat},J0 g i l=none↔∀(j:Nat) a,l[j]? =some a→g (i+j) a=none
  | [],i=>by simp [J0]
  |a::r,i=>by
   unfold J0;cases h:g i a with
   |some e=>
    constructor
    ·intro h';cases h'
    ·intro h';have:=h' 0 a rfl;rw [Nat.add_zero,h]at this;cases this
   |none=>
    dsimp only;rw [firstE_none (l:=r)];constructor
    ·intro h' j b hj;cases j with
     |zero=>cases hj;exact h
     |succ j=>have:=h' j b hj;rwa [show i+1+j=i+ (j+1) by omega]at this
    ·intro h' j b hj;have:=h' (j+1) b hj
     rwa [show i+ (j+1)=i+1+j by omega]at this
def Yf (n a b:Int):Bool:=decide (a≤n)&&decide (n≤b)
theorem Ty (n a b:Int):Dv n a b=some (Yf n a b):=rfl
theorem Vf (n a b:Int):Dz n a b=some (Yf n a b):=rfl
def Y2 (kind:Int):Int×Int×Int:=if kind=1 then (2000,30,90)else if kind=2 then (1000,20,60)else if kind=3 then (300,100,300)else (0,0,0)
theorem Xv (k:Int):Fz k=some (Y2 k):=by
  unfold Fz Y2;by_cases h:k<0∨k≥4
  ·rw [show ((decide (k<0))||(decide (k≥4)))=true by simpa using h,bM,bP (by omega),bP (by omega),bP (by omega)]
  ·rw [show ((decide (k<0))||(decide (k≥4)))=false by rw [bX];simpa using h,bN];obtain ⟨h1,h2⟩:=not_or.1 h;rcases (show k=0∨k=1∨k=2∨k=3 by omega)with rfl|rfl|rfl|rfl<;>rfl
theorem Zg (k:Int):Gk k=some (Y2 k):=by
  unfold Gk Y2;by_cases h1:k=1
  ·subst h1;rfl
  ·by_cases h2:k=2
   ·subst h2;rfl
   ·by_cases h3:k=3
    ·subst h3;rfl
    ·rw [bP h1,bP h2,bP h3];rw [show (k==1)=false by simpa using h1,show (k==2)=false by simpa using h2,show (k==3)=false by simpa using h3];rfl
theorem VB {n:Int}(h: -9223372036854775808≤n∧n≤9223372036854775807):E5 n=n:=Go.IntWalk.i64_in n h
theorem C8 {α:Type}{l:List α}{i:Nat}{a:α}(h:l[i]? =some a):C4 l (i:Int)=some a:=by
  unfold C4;rw [bO (by omega),wF];exact h
theorem G1 {α:Type}{l:List α}{i:Nat}{a:α}(h:l[i]? =some a):i<l.length:=(lI.1 h).1
theorem MA {α:Type}(c:Bool)(a b:α):cond c (some a) (some b)=some (cond c a b):=by cases c<;>rfl
def Dh (high:Int):Int→List Int→Bool
  |_,[]=>true
  |low,n::r=>decide (low≤n)&&decide (n<high)&&Dh high (n+1) r
theorem JI (l:List Int)(low high:Int)(hl:l.length≤1000000)(hh:high≤1000000000)(h0:0≤low):Cl l low high=some (Dh high low l):=by
  have key: ∀(r:List Int) (i:Nat) (lo:Int),0≤lo→l.drop i=r→i≤l.length→loop (Dk l high) (lo,(i:Int))=some (if Dh high lo r then .inl ()else .inr false):=by
    intro r
    induction r with
    |nil=>
     intro i lo _ hi hil;have:=P3 hi;refine D3 ?_;unfold Dk;dsimp only;rw [show decide ((i:Int)< (l.length:Int))=false from bI (by omega)];rfl
    |cons n r ih=>
     intro i lo hlo hi hil;have hlt:=O3 hi
     have hs:Dk l high (lo,(i:Int))=some (if decide (lo≤n)&&decide (n<high)then .go (n+1,((i+1:Nat):Int))else .out (.inr false)):=by
       unfold Dk;dsimp only;rw [show decide ((i:Int)< (l.length:Int))=true from bH (by omega),Db hi,bM,lB,VB (n:=(i:Int)+1) (by omega)];by_cases q:lo≤n∧n<high
       ·rw [show ((decide (n<lo))||(decide (n≥high)))=false by rw [bX];simp;omega,bN,VB (n:=n+1) (by omega),bO (by simpa using q)];rfl
       ·rw [show ((decide (n<lo))||(decide (n≥high)))=true by simp;omega,bM,bP (by simpa using q)]
     unfold Dh;cases q:(decide (lo≤n)&&decide (n<high))
     ·rw [q]at hs;rw [D3 hs];rfl
     ·rw [q]at hs;simp only [bS,bJ]at q;rw [K1 hs,ih (i+1) (n+1) (by omega) (L4 hi) (by omega)];rfl
  unfold Cl;have:=key l 0 low h0 rfl (by omega);rw [show ((0:Nat):Int)=0 from rfl]at this;rw [this];cases Dh high low l<;>rfl
theorem FX (l:List Int)(low high:Int)(hl:l.length≤1000000):Hh l low high=some (Dh high low l):=by
  have key: ∀(r:List Int) (i:Nat) (lo:Int),low≤lo→(i=0→lo=low)→(0<i→l[i - 1]? =some (lo - 1))→l.drop i=r→i≤l.length→loop (Ce l low high) (i:Int)=some (if Dh high lo r then .inl ()else .inr false):=by
    intro r
    induction r with
    |nil=>
     intro i lo _ _ _ hi hil;have:=P3 hi;refine D3 ?_;unfold Ce;rw [show decide ((i:Int)< (l.length:Int))=false from bI (by omega)];rfl
    |cons n r ih=>
     intro i lo hlo h0 h1 hi hil;have hlt:=O3 hi;have hn:l[i]? =some n:=by have:=congrArg (fun z=>z[0]?) hi;simpa using this
     have hs:Ce l low high (i:Int)=some (if decide (lo≤n)&&decide (n<high)then .go ((i+1:Nat):Int)else .out (.inr false)):=by
       unfold Ce;rw [show decide ((i:Int)< (l.length:Int))=true from bH (by omega),Db hi,bM,lB,MA,lB,MA,lB,VB (n:=(i:Int)+1) (by omega)];by_cases q1:n<low
       ·rw [bH q1,bP (by simp;omega)];rfl
       ·rw [bI q1];simp only [bV,bM,bW];by_cases q2:n≥high
        ·rw [bH q2,bP (by simp;omega)];rfl
        ·rw [bI q2];simp only [bV,bQ,bW];by_cases q3:(i:Int)>0
         ·have e:C4 l (E5 ((i:Int) - 1))=some (lo - 1):=by
            rw [VB (n:=(i:Int) - 1) (by omega),show (i:Int) - 1=((i - 1:Nat):Int) by omega];exact C8 (h1 (by omega))
          rw [bH q3,bM,bM,e,lB,bQ];by_cases q4:n≤lo - 1
          ·rw [bH q4,bP (by simp;omega)];rfl
          ·rw [bI q4,bO (by simp;omega)];rfl
         ·have:lo=low:=h0 (by omega);rw [bI q3,bN,lB,bR,bO (by simp;omega)];rfl
     unfold Dh;cases q:(decide (lo≤n)&&decide (n<high))
     ·rw [q]at hs;rw [D3 hs];rfl
     ·rw [q]at hs;simp only [bS,bJ]at q;rw [K1 hs,ih (i+1) (n+1) (by omega) (fun z=>by omega) (fun _=>by rw [Nat.add_sub_cancel,hn];congr 1;omega) (L4 hi) (by omega)];rfl
  unfold Hh;have:=key l 0 low (Int.le_refl _) (fun _=>rfl) (fun z=>by omega) rfl (by omega);rw [show ((0:Nat):Int)=0 from rfl]at this;rw [this];cases Dh high low l<;>rfl
noncomputable def Tn (c:Curve):Int:=FV 0 (Nh c)
theorem rV {m:Map}{i:Nat}{l:Lane}(h:m.Lanes[i]? =some l)(hl:l.Curve_.Pts.length≤1000000):Dm m (i:Int)=some (Tn l.Curve_):=by
  unfold Dm;rw [C8 h,lB,AA _ hl];rfl
structure Bear (m:Map):Prop where
  lanes:m.Lanes.length≤1000000
  pts: ∀l∈m.Lanes,l.Curve_.Pts.length≤1000000∧l.Next.length≤1000000
noncomputable def laneE (n:Nat)(i:Nat)(l:Lane):Option Int:=
  if (Y2 l.Kind).1=0 then some 4
  else if Dq l.Curve_.Pts≠0 then some (Dq l.Curve_.Pts)
  else if (Yf l.Half 200 4000&&Yf l.Limit 1 (Y2 l.Kind).1)=false then some 2
  else if 3<l.Next.length then some 8
  else if Dh n (i+1) l.Next=false then some 11 else none
theorem nF {m:Map}(B:Bear m):W5 ⟨m⟩=some ((J0 (laneE m.Lanes.length) 0 m.Lanes).getD 0):=by
  have h:=Z7 m.Lanes (S6 ⟨m⟩) (laneE m.Lanes.length) (fun i l hl=>by
    have hi:=G1 hl;have hb:=B.lanes;obtain ⟨p1,p2⟩:=B.pts l (lG hl);unfold S6 laneE;dsimp only;rw [show decide ((i:Int)< (m.Lanes.length:Int))=true from bH (by omega),C8 hl,bM,lB,Xv,lB,CF _ p1,lB,Ty,Ty,lB,MA,lB,VB (n:=(i:Int)+1) (by omega),JI _ _ _ p2 (by omega) (by omega),lB];by_cases h1:(Y2 l.Kind).1=0
    ·rw [bO h1,show ((Y2 l.Kind).1==0)=true by simpa using h1];rfl
    ·rw [bP h1,show ((Y2 l.Kind).1==0)=false by simpa using h1,bN];by_cases h2:Dq l.Curve_.Pts≠0
     ·rw [bO h2,show (Dq l.Curve_.Pts !=0)=true by simpa using h2];rfl
     ·rw [bP h2,show (Dq l.Curve_.Pts !=0)=false by simpa using h2,bN];cases Yf l.Half 200 4000
      ·rfl
      ·cases Yf l.Limit 1 (Y2 l.Kind).1
       ·rfl
       ·simp only [bU,bV,bM,bN,bW,Bool.and_self];rw [bP (by decide)];by_cases h3:3<l.Next.length
        ·rw [bO h3,show decide ((l.Next.length:Int)>3)=true from bH (by omega)];rfl
        ·rw [bP h3,show decide ((l.Next.length:Int)>3)=false from bI (by omega),bN]
         cases Dh (m.Lanes.length:Int) ((i:Int)+1) l.Next<;>rfl) (by
    unfold S6;dsimp only
    rw [show decide ((m.Lanes.length:Int)< (m.Lanes.length:Int))=false from bI (by omega)];rfl)
  unfold W5;rw [h];cases J0 (laneE m.Lanes.length) 0 m.Lanes<;>rfl
theorem nG (k:Int):((decide (k<1))||(decide (k>3)))=decide ((Y2 k).1=0):=by
  unfold Y2;by_cases h1:k=1
  ·subst h1;rfl
  ·by_cases h2:k=2
   ·subst h2;rfl
   ·by_cases h3:k=3
    ·subst h3;rfl
    ·rw [bP h1,bP h2,bP h3];simp only [decide_true,bT,bJ];omega
theorem nH {m:Map}(B:Bear m){i:Nat}{l:Lane}(hl:m.Lanes[i]? =some l):Kb m (i:Int)=some ((laneE m.Lanes.length i l).getD 0):=by
  have hi:=G1 hl;have hb:=B.lanes;obtain ⟨p1,p2⟩:=B.pts l (lG hl);unfold Kb laneE;rw [C8 hl,lB,nG,CG _ p1,lB,Zg,lB,Vf,Vf,lB,MA,lB,VB (n:=(i:Int)+1) (by omega),FX _ _ _ p2,lB];by_cases h1:(Y2 l.Kind).1=0
  ·rw [bO h1,bH h1];rfl
  ·rw [bP h1,bI h1,bN];by_cases h2:Dq l.Curve_.Pts≠0
   ·rw [bO h2,show (Dq l.Curve_.Pts !=0)=true by simpa using h2];rfl
   ·rw [bP h2,show (Dq l.Curve_.Pts !=0)=false by simpa using h2,bN];cases Yf l.Half 200 4000
    ·rfl
    ·cases Yf l.Limit 1 (Y2 l.Kind).1
     ·rfl
     ·simp only [bU,bV,bM,bN,bW,Bool.and_self];rw [bP (by decide)];by_cases h3:3<l.Next.length
      ·rw [bO h3,show decide ((l.Next.length:Int)>3)=true from bH (by omega)];rfl
      ·rw [bP h3,show decide ((l.Next.length:Int)>3)=false from bI (by omega),bN];cases Dh (m.Lanes.length:Int) ((i:Int)+1) l.Next<;>rfl
theorem OT {n i:Nat}{l:Lane}{e:Int}(h:laneE n i l=some e):e≠0:=by
  unfold laneE at h;split at h
  ·cases h;decide
  ·split at h
   ·rename_i h2;cases h;exact h2
   ·split at h
    ·cases h;decide
    ·split at h
     ·cases h;decide
     ·split at h
      ·cases h;decide
      ·cases h
theorem XK {m:Map}(B:Bear m):loop (Ez m) 0=some (LU (J0 (laneE m.Lanes.length) 0 m.Lanes)):=
  Z7 m.Lanes (Ez m) (laneE m.Lanes.length) (fun i l hl=>by
   have hi:=G1 hl;have hb:=B.lanes;unfold Ez;rw [show decide ((i:Int)< (m.Lanes.length:Int))=true from bH (by omega),nH B hl,bM,lB,VB (n:=(i:Int)+1) (by omega)];cases h:laneE m.Lanes.length i l with
   |none=>rfl
   |some e=>
    rw [Option.getD_some,show (e !=0)=true by simpa using OT h];rfl) (by
   unfold Ez
   rw [show decide ((m.Lanes.length:Int)< (m.Lanes.length:Int))=false from bI (by omega)];rfl)
theorem Mh {high:Int}: ∀{l:List Int} {low:Int},Dh high low l=true→∀k∈l,low≤k∧k<high
  | [],_,_,k,hk=>by cases hk
  |n::r,low,h,k,hk=>by
   unfold Dh at h;simp only [bS,bJ]at h;rcases lU.1 hk with rfl|hk
   ·exact h.1
   ·have:=Mh h.2 k hk;omega
structure LaneOK (n i:Nat)(l:Lane):Prop where
  kind:(Y2 l.Kind).1≠0
  curve:Dq l.Curve_.Pts=0
  half:Yf l.Half 200 4000=true
  limit:Yf l.Limit 1 (Y2 l.Kind).1=true
  few:l.Next.length≤3
  next:Dh n (i+1) l.Next=true
theorem aT {n i:Nat}{l:Lane}(h:laneE n i l=none):LaneOK n i l:=by
  unfold laneE at h;split at h
  ·cases h
  ·rename_i h1;split at h
   ·cases h
   ·rename_i h2;split at h
    ·cases h
    ·rename_i h3;split at h
     ·cases h
     ·rename_i h4;split at h
      ·cases h
      ·rename_i h5;simp only [Bool.not_eq_false,bS]at h3;exact ⟨h1,Decidable.not_not.1 h2,h3.1,h3.2,by omega,by simpa using h5⟩
theorem CH {m:Map}(h:J0 (laneE m.Lanes.length) 0 m.Lanes=none){i:Nat}{l:Lane}(hl:m.Lanes[i]? =some l):LaneOK m.Lanes.length i l:=by
  have:=firstE_none.1 h i l hl;rw [wK]at this;exact aT this
theorem JJ {l:List Spot}(h:Dq l=0):2≤l.length:=by
  unfold Dq at h;split at h
  ·cases h
  ·omega
def EN (l:List Spot):Spot:=l.headD ⟨0,0⟩
def AB (l:List Spot):Spot:=l.getLastD ⟨0,0⟩
theorem RS {l:List Spot}(h:2≤l.length):C4 l 0=some (EN l):=by
  cases l with
  |nil=>simp at h
  |cons a r=>rfl
theorem RU {l:List Spot}(h:2≤l.length)(hl:l.length≤1000000):C4 l (E5 ((l.length:Int) - 1))=some (AB l):=by
  rw [VB (by omega),show (l.length:Int) - 1=((l.length - 1:Nat):Int) by omega];refine C8 ?_;unfold AB;rw [List.getLastD_eq_getLast?,List.getLast?_eq_getElem?];rw [lH (by omega)];rfl
def XL (a b:Spot):Bool:=a.X==b.X&& (a.Y==b.Y&&true)
def CI (m:Map)(l:Lane)(_:Nat)(k:Int):Option Int:=
  match m.Lanes[k.toNat]? with
  |some n=>if n.Kind≠l.Kind then some 4 else if XL (EN n.Curve_.Pts) (AB l.Curve_.Pts)=false then some 3 else none
  |none=>none
def nextE (m:Map)(_:Nat)(l:Lane):Option Int:=J0 (CI m l) 0 l.Next
theorem OU {m:Map}(B:Bear m)(H:J0 (laneE m.Lanes.length) 0 m.Lanes=none){i:Nat}{l:Lane}(hl:m.Lanes[i]? =some l){j:Nat}{k:Int}(hk:l.Next[j]? =some k):
    ∃n,C4 m.Lanes k=some n∧m.Lanes[k.toNat]? =some n∧2≤n.Curve_.Pts.length∧n.Curve_.Pts.length≤1000000:=by
  have L:=CH H hl;have hb:=Mh L.next k (lG hk);have hlt:k.toNat<m.Lanes.length:=by omega
  refine ⟨m.Lanes[k.toNat],?_,lH hlt,JJ (CH H (lH hlt)).curve,(B.pts _ (List.getElem_mem hlt)).1⟩;unfold C4;rw [bO (by omega),lH hlt]
theorem gL {m:Map}{l:Lane}{j:Nat}{k e:Int}(h:CI m l j k=some e):e≠0:=by
  unfold CI at h;split at h
  ·split at h
   ·cases h;decide
   ·split at h
    ·cases h;decide
    ·cases h
  ·cases h
theorem RW {m:Map}(B:Bear m)(H:J0 (laneE m.Lanes.length) 0 m.Lanes=none){i:Nat}{l:Lane}(hl:m.Lanes[i]? =some l):
    loop (Z6 ⟨m⟩ l (AB l.Curve_.Pts)) 0=some (LU (nextE m i l))∧loop (Cf m l) 0=some (LU (nextE m i l)):=by
  have L:=CH H hl;obtain ⟨p1,p2⟩:=B.pts l (lG hl);constructor
  ·refine Z7 l.Next _ (CI m l) (fun j k hk=> ?_) ?_
   ·have hj:=G1 hk;obtain ⟨n,g1,g2,g3,g4⟩:=OU B H hl hk;unfold Z6 CI;dsimp only;rw [show decide ((j:Int)< (l.Next.length:Int))=true from bH (by omega),C8 hk,bM,lB,g1,lB,lB,RS g3,lB,VB (n:=(j:Int)+1) (by omega),g2];dsimp only;rw [show ((EN n.Curve_.Pts).X==(AB l.Curve_.Pts).X&& ((EN n.Curve_.Pts).Y==(AB l.Curve_.Pts).Y&&true))=XL (EN n.Curve_.Pts) (AB l.Curve_.Pts) from rfl];by_cases h1:n.Kind≠l.Kind
    ·rw [bO h1,show (n.Kind !=l.Kind)=true by simpa using h1];rfl
    ·rw [bP h1,show (n.Kind !=l.Kind)=false by simpa using h1];cases XL (EN n.Curve_.Pts) (AB l.Curve_.Pts)<;>rfl
   ·unfold Z6;rw [show decide ((l.Next.length:Int)< (l.Next.length:Int))=false from bI (by omega)];rfl
  ·refine Z7 l.Next _ (CI m l) (fun j k hk=> ?_) ?_
   ·have hj:=G1 hk;obtain ⟨n,g1,g2,g3,g4⟩:=OU B H hl hk;unfold Cf CI;rw [show decide ((j:Int)< (l.Next.length:Int))=true from bH (by omega),C8 hk,bM,lB,g1,lB,RS g3,lB,RU (JJ L.curve) p1,lB,VB (n:=(j:Int)+1) (by omega),g2];dsimp only;rw [show ((EN n.Curve_.Pts).X==(AB l.Curve_.Pts).X&& ((EN n.Curve_.Pts).Y==(AB l.Curve_.Pts).Y&&true))=XL (EN n.Curve_.Pts) (AB l.Curve_.Pts) from rfl];by_cases h1:n.Kind≠l.Kind
    ·rw [bO h1,show (n.Kind !=l.Kind)=true by simpa using h1];rfl
    ·rw [bP h1,show (n.Kind !=l.Kind)=false by simpa using h1];cases XL (EN n.Curve_.Pts) (AB l.Curve_.Pts)<;>rfl
   ·unfold Cf;rw [show decide ((l.Next.length:Int)< (l.Next.length:Int))=false from bI (by omega)];rfl
theorem RX {m:Map}(B:Bear m)(H:J0 (laneE m.Lanes.length) 0 m.Lanes=none):
    V4 ⟨m⟩=some ((J0 (nextE m) 0 m.Lanes).getD 0)∧Kc m=some ((J0 (nextE m) 0 m.Lanes).getD 0):=by
  have hb:=B.lanes;constructor
  ·have h:=Z7 m.Lanes (R0 ⟨m⟩) (nextE m) (fun i l hl=>by
     have hi:=G1 hl;have L:=CH H hl;obtain ⟨p1,p2⟩:=B.pts l (lG hl);unfold R0;dsimp only;rw [show decide ((i:Int)< (m.Lanes.length:Int))=true from bH (by omega),C8 hl,bM,lB,RU (JJ L.curve) p1,lB,(RW B H hl).1,VB (n:=(i:Int)+1) (by omega)]
     cases nextE m i l<;>rfl) (by
     unfold R0;dsimp only
     rw [show decide ((m.Lanes.length:Int)< (m.Lanes.length:Int))=false from bI (by omega)];rfl)
   unfold V4;rw [h];cases J0 (nextE m) 0 m.Lanes<;>rfl
  ·have h:=Z7 m.Lanes (Cg m) (nextE m) (fun i l hl=>by
     have hi:=G1 hl;unfold Cg;rw [show decide ((i:Int)< (m.Lanes.length:Int))=true from bH (by omega),C8 hl,bM,lB,(RW B H hl).2,VB (n:=(i:Int)+1) (by omega)]
     cases nextE m i l<;>rfl) (by
     unfold Cg
     rw [show decide ((m.Lanes.length:Int)< (m.Lanes.length:Int))=false from bI (by omega)];rfl)
   unfold Kc;rw [h];cases J0 (nextE m) 0 m.Lanes<;>rfl
theorem OV {α:Type}{f:Int→Option (Stp Int (Sum Unit Int))}(l:List α)(P:α→Bool)(hl:l.length≤1000000000)(hf: ∀(i:Nat) a,l[i]? =some a→f (i:Int)=some (if P a then .out (.inr (i:Int))else .go (E5 ((i:Int)+1))))(he:f (l.length:Int)=some (.out (.inl ()))):
    loop f 0=some (match l.findIdx? P with|some i=> .inr (i:Int)|none=> .inl ()):=by
  have key: ∀(r:List α) (i:Nat),l.drop i=r→i≤l.length→loop f (i:Int)=some (match r.findIdx? P with|some j=> .inr ((i+j:Nat):Int)|none=> .inl ()):=by
    intro r
    induction r with
    |nil=>
     intro i hi hil;have:=P3 hi;obtain rfl:i=l.length:=by omega
     rw [D3 he];rfl
    |cons a r ih=>
     intro i hi _;have hlt:=O3 hi;have h0:l[i]? =some a:=by have:=congrArg (fun z=>z[0]?) hi;simpa using this
     have hs:=hf i a h0;rw [List.findIdx?_cons];by_cases hp:P a=true
     ·rw [bO hp]at hs;rw [D3 hs,bO hp];simp
     ·rw [bP hp]at hs;rw [H4 (by omega)]at hs;rw [K1 hs,show ((i:Int)+1)=((i+1:Nat):Int) by omega,ih (i+1) (L4 hi) (by omega),bP hp];cases r.findIdx? P with
      |none=>rfl
      |some j=>simp only [lF];congr 3;omega
  have:=key l 0 rfl (by omega);rw [show ((0:Nat):Int)=0 from rfl]at this;rw [this];cases l.findIdx? P<;>simp
def HZ {α:Type}(P:α→Bool)(l:List α):Int:=match l.findIdx? P with|some i=>(i:Int)|none=> -1
theorem Xw {α:Type}(P:α→Bool)(l:List α):decide (HZ P l≥0)=l.any P:=by
  unfold HZ;cases h:l.findIdx? P with
  |none=>
   have:=List.findIdx?_eq_none_iff.1 h;rw [show l.any P=false by rw [List.any_eq_false];intro x hx;simpa using this x hx];decide
  |some i=>
   have:=List.findIdx?_isSome (xs:=l) (p:=P);rw [h]at this;rw [← this];simp
theorem Sc {α:Type}{f:Int→Option (Stp Int (Sum Unit Int))}(l:List α)(P:α→Bool)(hl:l.length≤1000000000)(hf: ∀(i:Nat) a,l[i]? =some a→f (i:Int)=some (if P a then .out (.inr (i:Int))else .go (E5 ((i:Int)+1))))(he:f (l.length:Int)=some (.out (.inl ()))):
    thenS (loop f 0) (fun _=>some (-1)) (fun r=>some r)=some (HZ P l):=by
  rw [OV l P hl hf he];unfold HZ;cases l.findIdx? P<;>rfl
theorem gM (l:List Phase)(hl:l.length≤1000000):F5 l=some (l.any fun p=> !Yf p.Ticks 1 10000):=by
  unfold F5 H8
  rw [Sc l (fun p=> !Yf p.Ticks 1 10000) (by omega) (fun i a h=>by
   have:=G1 h;unfold K7 Fg;rw [show decide ((i:Int)< (l.length:Int))=true from bH (by omega),C8 h,bM,lB,Ty,lB,lB]
   cases Yf a.Ticks 1 10000<;>rfl) (by
   unfold K7
   simp)]
  rw [lB,Xw]
theorem aU (m:Map)(l:List Phase)(hl:l.length≤1000000)(hm:m.Lanes.length≤1000000)(hg: ∀p∈l,p.Green.length≤1000000):F3 l ⟨m⟩=some (l.any fun p=> !Dh m.Lanes.length 0 p.Green):=by
  unfold F3 H6
  rw [Sc l (fun p=> !Dh m.Lanes.length 0 p.Green) (by omega) (fun i a h=>by
   have:=G1 h;unfold F2 U7;dsimp only;rw [show decide ((i:Int)< (l.length:Int))=true from bH (by omega),C8 h,bM,lB,JI _ _ _ (hg a (lG h)) (by omega) (by omega),lB,lB]
   cases Dh (m.Lanes.length:Int) 0 a.Green<;>rfl) (by
   unfold F2
   simp)]
  rw [lB,Xw]
structure BearS (m:Map):Prop where
  many:m.Signals.length≤1000000
  phases: ∀s∈m.Signals,s.Phases.length≤1000000∧∀p∈s.Phases,p.Green.length≤1000000
def signalE (m:Map)(_:Nat)(s:Signal):Option Int:=
  if s.Phases.length=0 then some 6
  else if 6<s.Phases.length then some 8
  else if Yf s.Offset 0 1099511627776=false then some 2
  else if (s.Phases.any fun p=> !Yf p.Ticks 1 10000)=true then some 2
  else if (s.Phases.any fun p=> !Dh m.Lanes.length 0 p.Green)=true then some 11 else none
theorem aV {m:Map}(B:Bear m)(S:BearS m):U3 ⟨m⟩=some ((J0 (signalE m) 0 m.Signals).getD 0):=by
  have h:=Z7 m.Signals (Q5 ⟨m⟩) (signalE m) (fun i s hs=>by
    have hi:=G1 hs;have hb:=S.many;obtain ⟨p1,p2⟩:=S.phases s (lG hs);unfold Q5 signalE;dsimp only;rw [show decide ((i:Int)< (m.Signals.length:Int))=true from bH (by omega),C8 hs,bM,lB,Ty,lB,gM _ p1,lB,aU m _ p1 B.lanes p2,lB,VB (n:=(i:Int)+1) (by omega)];by_cases h1:s.Phases.length=0
    ·rw [bO h1,h1];rfl
    ·rw [bP h1,show ((s.Phases.length:Int)==0)=false by simp only [beq_eq_false_iff_ne];omega,bN];by_cases h2:6<s.Phases.length
     ·rw [bO h2,show decide ((s.Phases.length:Int)>6)=true from bH (by omega)];rfl
     ·rw [bP h2,show decide ((s.Phases.length:Int)>6)=false from bI (by omega),bN];cases Yf s.Offset 0 1099511627776
      ·rfl
      ·cases (s.Phases.any fun p=> !Yf p.Ticks 1 10000)
       ·cases (s.Phases.any fun p=> !Dh m.Lanes.length 0 p.Green)<;>rfl
       ·rfl) (by
    unfold Q5;dsimp only
    rw [show decide ((m.Signals.length:Int)< (m.Signals.length:Int))=false from bI (by omega)];rfl)
  unfold U3;rw [h];cases J0 (signalE m) 0 m.Signals<;>rfl
theorem XM (s:Signal)(hl:s.Phases.length≤1000000): ∀(r:List Phase) (i:Nat) (b:Bool),s.Phases.drop i=r→i≤s.Phases.length→loop (Y0 s) (b,(i:Int))=some (b&& !(r.any fun p=> !Yf p.Ticks 1 10000)):=by
  intro r
  induction r with
  |nil=>
   intro i b hi hil;have:=P3 hi;refine D3 ?_;unfold Y0;dsimp only;rw [show decide ((i:Int)< (s.Phases.length:Int))=false from bI (by omega)];simp
  |cons p r ih=>
   intro i b hi hil;have hlt:=O3 hi
   have hs:Y0 s (b,(i:Int))=some (.go (b&&Yf p.Ticks 1 10000,((i+1:Nat):Int))):=by
     unfold Y0;dsimp only;rw [show decide ((i:Int)< (s.Phases.length:Int))=true from bH (by omega),Db hi,VB (n:=(i:Int)+1) (by omega)];cases b<;>rfl
   rw [K1 hs,ih (i+1) _ (L4 hi) (by omega),List.any_cons];cases b<;>cases Yf p.Ticks 1 10000<;>simp
theorem UN (m:Map)(s:Signal)(hl:s.Phases.length≤1000000)(hg: ∀p∈s.Phases,p.Green.length≤1000000):loop (X9 m s) 0=some (if (s.Phases.any fun p=> !Dh m.Lanes.length 0 p.Green)=true then .inr 11 else .inl ()):=by
  have h:=Z7 s.Phases (X9 m s) (fun _ p=>if Dh m.Lanes.length 0 p.Green then none else some 11) (fun i p hp=>by
    have:=G1 hp;unfold X9;rw [show decide ((i:Int)< (s.Phases.length:Int))=true from bH (by omega),C8 hp,bM,lB,FX _ _ _ (hg p (lG hp)),lB,VB (n:=(i:Int)+1) (by omega)]
    cases Dh (m.Lanes.length:Int) 0 p.Green<;>rfl) (by
    unfold X9
    rw [show decide ((s.Phases.length:Int)< (s.Phases.length:Int))=false from bI (by omega)];rfl)
  rw [h]
  have key: ∀(l:List Phase) (i:Nat),LU (J0 (fun (_:Nat) (p:Phase)=>if Dh (m.Lanes.length:Int) 0 p.Green=true then none else some (11:Int)) i l)=if (l.any fun p=> !Dh m.Lanes.length 0 p.Green)=true then .inr 11 else .inl ():=by
    intro l
    induction l with
    |nil=>intro i;rfl
    |cons p r ih=>
     intro i;unfold J0;rw [List.any_cons];cases hq:Dh (m.Lanes.length:Int) 0 p.Green
     ·rfl
     ·exact ih (i+1)
  rw [key]
end Go.Abs.World
namespace Go.Abs
open Go
section
variable {α β σ S τ:Type}
def OW (step:Nat→σ→α→Sum σ τ)(fin:σ→τ):Nat→σ→List α→τ
  |_,s,[]=>fin s
  |i,s,a::r=>match step i s a with
   | .inl s'=>OW step fin (i+1) s' r
   | .inr t=>t
theorem Y3 {l:List α}{i:Nat}{a:α}{r:List α}(h:l.drop i=a::r):l[i]? =some a:=by
  have:=congrArg (fun z=>z[0]?) h;simpa using this
theorem tU {F:S→Option (Stp S τ)}(pk:Nat→σ→S)(l:List α)(inv:Nat→σ→Prop)(step:Nat→σ→α→Sum σ τ)(fin:σ→τ){s0:σ}{S0:S}(hS:pk 0 s0=S0)(hi:inv 0 s0)
    (hF: ∀i a s,l[i]? =some a→inv i s→F (pk i s)=some (match step i s a with| .inl s'=> .go (pk (i+1) s')| .inr t=> .out t))
    (hI: ∀i a s s',l[i]? =some a→inv i s→step i s a= .inl s'→inv (i+1) s')
    (h0: ∀s,inv l.length s→F (pk l.length s)=some (.out (fin s))):loop F S0=some (OW step fin 0 s0 l):=by
  have key: ∀(r:List α) (i:Nat) (s:σ),l.drop i=r→i≤l.length→inv i s→loop F (pk i s)=some (OW step fin i s r):=by
    intro r
    induction r with
    |nil=>
     intro i s hi hil hv;have:=P3 hi;obtain rfl:i=l.length:=by omega
     exact D3 (h0 s hv)
    |cons a r ih=>
     intro i s hi hil hv;have hlt:=O3 hi;have ha:=Y3 hi;have hs:=hF i a s ha hv;unfold OW;cases h:step i s a with
     |inl s'=>rw [h]at hs;rw [K1 hs];exact ih (i+1) s' (L4 hi) (by omega) (hI i a s s' ha hv h)
     |inr t=>rw [h]at hs;exact D3 hs
  rw [← hS];exact key l 0 s0 rfl (by omega) hi
def IA (step:Nat→σ→α→σ):Nat→σ→List α→σ
  |_,s,[]=>s
  |i,s,a::r=>IA step (i+1) (step i s a) r
theorem KL (step:Nat→σ→α→σ)(fin:σ→τ): ∀(l:List α) (i:Nat) (s:σ),OW (fun i s a=> .inl (step i s a)) fin i s l=fin (IA step i s l)
  | [],_,_=>rfl
  |_::r,i,_=>KL step fin r (i+1) _
theorem eE {F:S→Option (Stp S τ)}(pk:Nat→σ→S)(l:List α)(inv:Nat→σ→Prop)(step:Nat→σ→α→σ)(fin:σ→τ){s0:σ}{S0:S}(hS:pk 0 s0=S0)(hi:inv 0 s0)
    (hF: ∀i a s,l[i]? =some a→inv i s→F (pk i s)=some (.go (pk (i+1) (step i s a))))
    (hI: ∀i a s,l[i]? =some a→inv i s→inv (i+1) (step i s a))
    (h0: ∀s,inv l.length s→F (pk l.length s)=some (.out (fin s))):loop F S0=some (fin (IA step 0 s0 l)):=by
  rw [← KL step fin];exact tU pk l inv _ fin hS hi hF (fun i a s s' h1 h2 h3=>by cases h3;exact hI i a s h1 h2) h0
def Hr (g:Nat→α→Option β):Nat→List α→List β
  |_,[]=> []
  |i,a::r=>match g i a with
   |some b=>b::Hr g (i+1) r
   |none=>Hr g (i+1) r
theorem Xx (g:Nat→α→Option β): ∀(l:List α) (i:Nat),(Hr g i l).length≤l.length
  | [],_=>wH _
  |a::r,i=>by
   have:=Xx g r (i+1);unfold Hr;cases g i a<;>simp only [lL]<;>omega
theorem FY (g:Nat→α→Option β): ∀(l:List α) (i:Nat) (s:List β),IA (fun i s a=>match g i a with|some b=>s++ [b]|none=>s) i s l=s++Hr g i l
  | [],_,s=>by simp [IA,Hr]
  |a::r,i,s=>by
   unfold IA Hr;rw [FY g r (i+1)];cases g i a<;>simp
theorem tV {F:S→Option (Stp S τ)}(pk:Nat→List β→S)(l:List α)(g:Nat→α→Option β)(fin:List β→τ){S0:S}(hS:pk 0 []=S0)
    (hF: ∀i a (s:List β),l[i]? =some a→s.length≤i→F (pk i s)=some (.go (pk (i+1) (match g i a with|some b=>s++ [b]|none=>s))))
    (h0: ∀s,F (pk l.length s)=some (.out (fin s))):loop F S0=some (fin (Hr g 0 l)):=by
  have:=eE pk l (fun i s=>s.length≤i) (fun i s a=>match g i a with|some b=>s++ [b]|none=>s) fin hS (by simp) hF (fun i a s _ hs=>by
    cases g i a<;>simp<;>omega) (fun s _=>h0 s)
  rw [this,FY,lQ]
theorem JK {F:List β×Int→Option (Stp (List β×Int) τ)}(l:List α)(g:Nat→α→Option β)(fin:List β→τ)
    (hF: ∀(i:Nat) a (s:List β),l[i]? =some a→s.length≤i→F (s,(i:Int))=some (.go ((match g i a with|some b=>s++ [b]|none=>s),((i+1:Nat):Int))))
    (h0: ∀s,F (s,(l.length:Int))=some (.out (fin s))):loop F ([],0)=some (fin (Hr g 0 l)):=tV (fun i s=>(s,(i:Int))) l g fin rfl hF h0
theorem KM {F:Int→Option (Stp Int (Sum Unit β))}(l:List α)(p:α→Bool)(v:β)(hF: ∀(i:Nat) a,l[i]? =some a→F (i:Int)=some (if p a then .out (.inr v)else .go ((i+1:Nat):Int)))(h0:F (l.length:Int)=some (.out (.inl ()))):
    loop F 0=some (if l.any p then .inr v else .inl ()):=by
  have key: ∀(l:List α) (i:Nat),OW (fun _ _ a=>if p a then Sum.inr (Sum.inr v)else Sum.inl ()) (fun _=>(Sum.inl ():Sum Unit β)) i () l=if l.any p then .inr v else .inl ():=by
    intro l
    induction l with
    |nil=>intro i;rfl
    |cons a r ih=>
     intro i;unfold OW;rw [List.any_cons];cases h:p a
     ·exact ih (i+1)
     ·rfl
  rw [← key l 0];exact tU (F:=F) (σ:=Unit) (fun i _=>(i:Int)) l (fun _ _=>True) _ _ (s0:=()) rfl trivial (fun i a _ h _=>by rw [hF i a h];cases p a<;>rfl) (fun _ _ _ _ _ _ _=>trivial) (fun _ _=>h0)
end
theorem J8 {i:Nat}{n:Nat}(h:i<n):decide ((i:Int)< (n:Int))=true:=bH (by omega)
theorem H9 (n:Nat):decide ((n:Int)< (n:Int))=false:=bI (by omega)
theorem G4 {i:Nat}{n:Nat}(h:i<n)(hn:n≤1000000000000):E5 ((i:Int)+1)=((i+1:Nat):Int):=by rw [H4 (by omega)];omega
end Go.Abs
namespace Go.Abs.World
open Go Go.Abs
structure BearZ (m:Map):Prop where
  many:m.Zones.length≤1000000
  parts: ∀z∈m.Zones,z.Parts.length≤1000000
noncomputable def R8 (m:Map)(k:Int):Int:=((m.Lanes[k.toNat]?).map fun l=>Tn l.Curve_).getD 0
noncomputable def Wh (m:Map)(p:Part):Bool:=decide (p.From<0)||decide (p.From≥p.To)||decide (p.To>R8 m p.Lane_)||decide (p.Rank<0)||decide (p.Rank>100)
noncomputable def zoneE (m:Map)(_:Nat)(z:Zone):Option Int:=
  if z.Parts.length<2 then some 6
  else if 6<z.Parts.length then some 8
  else if z.Signal_<0∨(m.Signals.length:Int)<z.Signal_ then some 2
  else if Dh m.Lanes.length 0 (z.Parts.map (·.Lane_))=false then some 11
  else if z.Parts.any (Wh m)=true then some 2 else none
theorem Wi {m:Map}{k:Int}(h0:0≤k)(h1:k<m.Lanes.length): ∃l,m.Lanes[k.toNat]? =some l∧C4 m.Lanes k=some l:=by
  have hlt:k.toNat<m.Lanes.length:=by omega
  refine ⟨m.Lanes[k.toNat],lH hlt,?_⟩;unfold C4;rw [bO h0,lH hlt]
theorem MB {m:Map}(B:Bear m){k:Int}(h0:0≤k)(h1:k<m.Lanes.length):Dm m k=some (R8 m k):=by
  obtain ⟨l,e1,e2⟩:=Wi h0 h1;have:=rV (m:=m) e1 (B.pts l (lG e1)).1;rw [show ((k.toNat:Nat):Int)=k by omega]at this;rw [this,R8,e1];rfl
theorem OX {m:Map}(B:Bear m){k:Int}(h0:0≤k)(h1:k<m.Lanes.length): ∃l,C4 m.Lanes k=some l∧Gm l.Curve_=some (R8 m k):=by
  obtain ⟨l,e1,e2⟩:=Wi h0 h1;refine ⟨l,e2,?_⟩;rw [LS _ (B.pts l (lG e1)).1,R8,e1];rfl
theorem XN {α β:Type}(f:α→β): ∀(l:List α) (i:Nat),Hr (fun _ a=>some (f a)) i l=l.map f
  | [],_=>rfl
  |a::r,i=>by rw [Hr,XN f r];rfl
theorem nI {z:Zone}{F:List Int×Int→Option (Stp (List Int×Int) (List Int))}(hl:z.Parts.length≤1000000)
    (hF: ∀x,F x=cond (decide (x.2< (z.Parts.length:Int))) ((C4 z.Parts x.2).bind fun v=>(X3 x.1 [v.Lane_]).bind fun w=>some (.go (w,E5 (x.2+1)))) (some (.out x.1))):
    loop F ([],0)=some (z.Parts.map (·.Lane_)):=by
  rw [← XN (fun p:Part=>p.Lane_) z.Parts 0];refine tV (fun i s=>(s,(i:Int))) z.Parts (fun _ p=>some p.Lane_) id rfl (fun i a s ha hs=> ?_) (fun s=> ?_)
  ·have hi:=G1 ha;rw [hF,J8 hi,C8 ha,bM,lB,Ia (by simp;omega),lB,G4 hi (by omega)]
  ·rw [hF,H9];rfl
theorem nJ {m:Map}(B:Bear m)(Z:BearZ m):W6 ⟨m⟩=some ((J0 (zoneE m) 0 m.Zones).getD 0):=by
  have hb:=B.lanes
  have h:=Z7 m.Zones (S8 ⟨m⟩) (zoneE m) (fun i z hz=>by
    have hi:=G1 hz;have hm:=Z.many;have p1:=Z.parts z (lG hz);unfold S8 zoneE;dsimp only;rw [J8 hi,C8 hz,bM,lB,nI p1 (F:=Gc z) (fun x=>rfl),lB,JI _ _ _ (by simpa using p1) (by omega) (by omega),lB,G4 hi (by omega)];by_cases h1:z.Parts.length<2
    ·rw [bO h1,show decide ((z.Parts.length:Int)<2)=true from bH (by omega)];rfl
    ·rw [bP h1,show decide ((z.Parts.length:Int)<2)=false from bI (by omega),bN];by_cases h2:6<z.Parts.length
     ·rw [bO h2,show decide ((z.Parts.length:Int)>6)=true from bH (by omega)];rfl
     ·rw [bP h2,show decide ((z.Parts.length:Int)>6)=false from bI (by omega),bN];by_cases h3:z.Signal_<0∨(m.Signals.length:Int)<z.Signal_
      ·rw [bO h3,show ((decide (z.Signal_<0))||(decide (z.Signal_>(m.Signals.length:Int))))=true by simpa using h3];rfl
      ·rw [bP h3,show ((decide (z.Signal_<0))||(decide (z.Signal_>(m.Signals.length:Int))))=false by rw [bX];simpa using h3,bN];cases h4:Dh (m.Lanes.length:Int) 0 (z.Parts.map (·.Lane_))
       ·rfl
       ·rw [bP (by decide)]
        have:=KM (F:=S7 ⟨m⟩ z) z.Parts (Wh m) (2:Int) (fun j p hp=>by
          have hj:=G1 hp;have hk:=Mh h4 p.Lane_ (List.mem_map.2 ⟨p,lG hp,rfl⟩);unfold S7 Wh;dsimp only;rw [J8 hj,C8 hp,bM,lB,MB B hk.1 hk.2,G4 hj (by omega)];cases h5:(decide (p.From<0)||decide (p.From≥p.To))
          ·simp only [bV,bM,lB];cases (false||decide (p.To>R8 m p.Lane_)||decide (p.Rank<0)||decide (p.Rank>100))<;>rfl
          ·rfl) (by unfold S7;rw [H9];rfl)
        rw [this]
        cases z.Parts.any (Wh m)<;>rfl) (by
    unfold S8;dsimp only
    rw [H9];rfl)
  unfold W6;rw [h];cases J0 (zoneE m) 0 m.Zones<;>rfl
theorem nK {m:Map}(B:Bear m)(Z:BearZ m){i:Nat}{z:Zone}(hz:m.Zones[i]? =some z):Kd m z=some ((zoneE m i z).getD 0):=by
  have hb:=B.lanes;have p1:=Z.parts z (lG hz);unfold Kd zoneE;rw [nI p1 (F:=Jp z) (fun x=>rfl),lB,FX _ _ _ (by simpa using p1),lB];by_cases h1:z.Parts.length<2
  ·rw [bO h1,show decide ((z.Parts.length:Int)<2)=true from bH (by omega)];rfl
  ·rw [bP h1,show decide ((z.Parts.length:Int)<2)=false from bI (by omega),bN];by_cases h2:6<z.Parts.length
   ·rw [bO h2,show decide ((z.Parts.length:Int)>6)=true from bH (by omega)];rfl
   ·rw [bP h2,show decide ((z.Parts.length:Int)>6)=false from bI (by omega),bN];by_cases h3:z.Signal_<0∨(m.Signals.length:Int)<z.Signal_
    ·rw [bO h3,show ((decide (z.Signal_<0))||(decide (z.Signal_>(m.Signals.length:Int))))=true by simpa using h3];rfl
    ·rw [bP h3,show ((decide (z.Signal_<0))||(decide (z.Signal_>(m.Signals.length:Int))))=false by rw [bX];simpa using h3,bN];cases h4:Dh (m.Lanes.length:Int) 0 (z.Parts.map (·.Lane_))
     ·rfl
     ·rw [bP (by decide)]
      have:=KM (F:=Ci m z) z.Parts (Wh m) (2:Int) (fun j p hp=>by
        have hj:=G1 hp;have hk:=Mh h4 p.Lane_ (List.mem_map.2 ⟨p,lG hp,rfl⟩);obtain ⟨l,e1,e2⟩:=OX B hk.1 hk.2;unfold Ci Wh;rw [J8 hj,C8 hp,bM,lB,e1,G4 hj (by omega)];cases h5:(decide (p.From<0)||decide (p.From≥p.To))
        ·simp only [bV,bM,lB,e2];cases (false||decide (p.To>R8 m p.Lane_)||decide (p.Rank<0)||decide (p.Rank>100))<;>rfl
        ·rfl) (by unfold Ci;rw [H9];rfl)
      rw [this];cases z.Parts.any (Wh m)<;>rfl
structure BearW (m:Map):Prop where
  many:m.Works.length≤1000000
noncomputable def workE (m:Map)(_:Nat)(w:Work):Option Int:=
  if w.Lane_<0∨(m.Lanes.length:Int)≤w.Lane_ then some 7
  else if (decide (w.From<0)||decide (w.From>w.To)||decide (w.To>R8 m w.Lane_)||decide (w.Begin<0)||decide (w.Begin≥w.End)||decide (w.End>1099511627776)|| !Yf w.Limit 0 ((m.Lanes[w.Lane_.toNat]?).map fun l=>(Y2 l.Kind).1).get!)=true then some 2 else none
theorem nL {m:Map}(B:Bear m)(W:BearW m):W7 ⟨m⟩=some ((J0 (workE m) 0 m.Works).getD 0):=by
  have hb:=B.lanes
  have h:=Z7 m.Works (S9 ⟨m⟩) (workE m) (fun i w hw=>by
    have hi:=G1 hw;have hm:=W.many;unfold S9 workE;dsimp only;rw [J8 hi,C8 hw,bM,lB,G4 hi (by omega)];by_cases h1:w.Lane_<0∨(m.Lanes.length:Int)≤w.Lane_
    ·rw [bO h1,show ((decide (w.Lane_<0))||(decide (w.Lane_≥(m.Lanes.length:Int))))=true by simpa using h1];rfl
    ·rw [bP h1,show ((decide (w.Lane_<0))||(decide (w.Lane_≥(m.Lanes.length:Int))))=false by rw [bX];simpa using h1,bN];obtain ⟨l,e1,e2⟩:=Wi (m:=m) (k:=w.Lane_) (by omega) (by omega);rw [e2,lB,Xv,lB,MB B (by omega) (by omega),Ty,e1];simp only [lF,Option.get!_some];cases (decide (w.From<0)||decide (w.From>w.To))
     ·simp only [bV,bM,lB];cases (false||decide (w.To>R8 m w.Lane_)||decide (w.Begin<0)||decide (w.Begin≥w.End)||decide (w.End>1099511627776))
      ·simp only [bV,bM,lB];by_cases hq:Yf w.Limit 0 (Y2 l.Kind).1=true<;>simp [hq]
      ·rfl
     ·rfl) (by
    unfold S9;dsimp only
    rw [H9];rfl)
  unfold W7;rw [h];cases J0 (workE m) 0 m.Works<;>rfl
theorem nM {m:Map}(B:Bear m){i:Nat}(w:Work):Ke m w=some ((workE m i w).getD 0):=by
  have hb:=B.lanes;unfold Ke workE;by_cases h1:w.Lane_<0∨(m.Lanes.length:Int)≤w.Lane_
  ·rw [bO h1,show ((decide (w.Lane_<0))||(decide (w.Lane_≥(m.Lanes.length:Int))))=true by simpa using h1];rfl
  ·rw [bP h1,show ((decide (w.Lane_<0))||(decide (w.Lane_≥(m.Lanes.length:Int))))=false by rw [bX];simpa using h1,bN];obtain ⟨l,e1,e2⟩:=Wi (m:=m) (k:=w.Lane_) (by omega) (by omega);obtain ⟨l',e3,e4⟩:=OX B (k:=w.Lane_) (by omega) (by omega);rw [e2]at e3;cases e3;rw [e2,lB,Zg,lB,e4,Vf,e1];simp only [lF,Option.get!_some];cases (decide (w.From<0)||decide (w.From>w.To))
   ·simp only [bV,bM,lB];cases (false||decide (w.To>R8 m w.Lane_)||decide (w.Begin<0)||decide (w.Begin≥w.End)||decide (w.End>1099511627776))
    ·simp only [bV,bM,lB];by_cases hq:Yf w.Limit 0 (Y2 l.Kind).1=true<;>simp [hq]
    ·rfl
   ·rfl
theorem aW {m:Map}(S:BearS m)(i:Nat){s:Signal}(hs:s∈m.Signals):Gl m s=some ((signalE m i s).getD 0):=by
  obtain ⟨p1,p2⟩:=S.phases s hs;unfold Gl signalE;rw [Vf,lB,show (0:Int)=((0:Nat):Int) from rfl,XM s p1 s.Phases 0 _ rfl (by omega),lB];rw [show ((0:Nat):Int)=0 from rfl,UN m s p1 p2];by_cases h1:s.Phases.length=0
  ·rw [bO h1,h1];rfl
  ·rw [bP h1,show ((s.Phases.length:Int)==0)=false by simp only [beq_eq_false_iff_ne];omega,bN];by_cases h2:6<s.Phases.length
   ·rw [bO h2,show decide ((s.Phases.length:Int)>6)=true from bH (by omega)];rfl
   ·rw [bP h2,show decide ((s.Phases.length:Int)>6)=false from bI (by omega),bN];cases Yf s.Offset 0 1099511627776
    ·rfl
    ·cases (s.Phases.any fun p=> !Yf p.Ticks 1 10000)
     ·cases (s.Phases.any fun p=> !Dh m.Lanes.length 0 p.Green)<;>rfl
     ·rfl
structure BearM (m:Map):Prop where
  toBear:Bear m
  toBearS:BearS m
  toBearZ:BearZ m
  toBearW:BearW m
theorem BearM.lanes {m:Map}(B:BearM m):m.Lanes.length≤1000000:=B.toBear.lanes
noncomputable def Xy (m:Map):Int:=
  if Yf m.Version 0 1099511627776=false then 2
  else if m.Lanes.length=0 then 6
  else if 12<m.Lanes.length∨12<m.Zones.length∨4<m.Signals.length∨8<m.Works.length then 8
  else ((J0 (laneE m.Lanes.length) 0 m.Lanes).or ((J0 (nextE m) 0 m.Lanes).or ((J0 (signalE m) 0 m.Signals).or ((J0 (zoneE m) 0 m.Zones).or (J0 (workE m) 0 m.Works))))).getD 0
theorem Cj {α:Type}{g:Nat→α→Option Int}(h: ∀i a e,g i a=some e→e≠0): ∀{l:List α} {i:Nat} {e:Int},J0 g i l=some e→e≠0
  | [],_,_,q=>by cases q
  |a::r,i,e,q=>by
   unfold J0 at q;cases hg:g i a with
   |some e'=>rw [hg]at q;cases q;exact h i a e hg
   |none=>rw [hg]at q;exact Cj h q
theorem IB {m:Map}{i:Nat}{z:Zone}{e:Int}(h:zoneE m i z=some e):e≠0:=by
  unfold zoneE at h
  repeat' split at h
  all_goals first|(cases h;decide)|cases h
theorem Zh {m:Map}{i:Nat}{z:Signal}{e:Int}(h:signalE m i z=some e):e≠0:=by
  unfold signalE at h
  repeat' split at h
  all_goals first|(cases h;decide)|cases h
theorem OY {m:Map}{i:Nat}{z:Work}{e:Int}(h:workE m i z=some e):e≠0:=by
  unfold workE at h
  repeat' split at h
  all_goals first|(cases h;decide)|cases h
theorem OZ {m:Map}{i:Nat}{z:Lane}{e:Int}(h:nextE m i z=some e):e≠0:=Cj (fun _ _ _=>gL) h
theorem nN {α:Type}{F:Int×Int→Option (Stp (Int×Int) Int)}(l:List α)(g:Nat→α→Option Int)(hg: ∀i a e,g i a=some e→e≠0)(hl:l.length≤1000000)
    (hF: ∀(i:Nat) a,l[i]? =some a→F (0,(i:Int))=some (.go ((g i a).getD 0,((i+1:Nat):Int)))) (h0: ∀(i:Nat) (e:Int),e≠0→F (e,(i:Int))=some (.out e)) (h1:F (0,(l.length:Int))=some (.out 0)) (e0:Option Int) (he: ∀e,e0=some e→e≠0):
    loop F (e0.getD 0,0)=some ((e0.or (J0 g 0 l)).getD 0):=by
  have key: ∀(r:List α) (i:Nat),l.drop i=r→i≤l.length→loop F (0,(i:Int))=some ((J0 g i r).getD 0):=by
    intro r
    induction r with
    |nil=>
     intro i hi hil;have:=P3 hi;obtain rfl:i=l.length:=by omega
     exact D3 h1
    |cons a r ih=>
     intro i hi hil;have hlt:=O3 hi;have hs:=hF i a (Y3 hi);rw [K1 hs];unfold J0;cases h:g i a with
     |some e=>exact D3 (h0 (i+1) e (hg i a e h))
     |none=>exact ih (i+1) (L4 hi) (by omega)
  cases e0 with
  |some e=>exact D3 (h0 0 e (he e rfl))
  |none=>exact key l 0 rfl (by omega)
theorem Vg {m:Map}(B:BearM m):Lm m=some (Xy m):=by
  have hb:=B.lanes;unfold Lm Xy;rw [Vf,lB];cases Yf m.Version 0 1099511627776
  ·rfl
  ·simp only [bU,bN,Bool.true_eq_false,if_false];by_cases h1:m.Lanes.length=0
   ·rw [bO h1,h1];rfl
   ·rw [bP h1,show ((m.Lanes.length:Int)==0)=false by simp only [beq_eq_false_iff_ne];omega,bN];by_cases h2:12<m.Lanes.length∨12<m.Zones.length∨4<m.Signals.length∨8<m.Works.length
    ·rw [bO h2,show ((((decide ((m.Lanes.length:Int)>12))||(decide ((m.Zones.length:Int)>12)))||(decide ((m.Signals.length:Int)>4)))||(decide ((m.Works.length:Int)>8)))=true by simp;omega];rfl
    ·rw [bP h2,show ((((decide ((m.Lanes.length:Int)>12))||(decide ((m.Zones.length:Int)>12)))||(decide ((m.Signals.length:Int)>4)))||(decide ((m.Works.length:Int)>8)))=false by simp;omega,bN];rw [XK B.toBear];cases H:J0 (laneE m.Lanes.length) 0 m.Lanes with
     |some e=>rfl
     |none=>
      have n1: ∀e,J0 (nextE m) 0 m.Lanes=some e→e≠0:=fun e h=>Cj (fun _ _ _=>OZ) h
      have n2: ∀e,(J0 (nextE m) 0 m.Lanes).or (J0 (signalE m) 0 m.Signals)=some e→e≠0:=fun e h=>by
        rcases Option.or_eq_some_iff.1 h with h|⟨_,h⟩
        ·exact n1 e h
        ·exact Cj (fun _ _ _=>Zh) h
      have n3: ∀e,((J0 (nextE m) 0 m.Lanes).or (J0 (signalE m) 0 m.Signals)).or (J0 (zoneE m) 0 m.Zones)=some e→e≠0:=fun e h=>by
        rcases Option.or_eq_some_iff.1 h with h|⟨_,h⟩
        ·exact n2 e h
        ·exact Cj (fun _ _ _=>IB) h
      simp only [LU,thenS,Option.none_or];rw [(RX B.toBear H).2,lB]
      rw [nN m.Signals (signalE m) (fun _ _ _=>Zh) B.toBearS.many (fun i a ha=>by
       have hi:=G1 ha;have hm:=B.toBearS.many;unfold Il;dsimp only
       rw [J8 hi,C8 ha,bQ,show ((0:Int)==0)=true from rfl,bM,lB,aW B.toBearS i (lG ha),G4 hi (by omega)];rfl) (fun i e he=>by
       unfold Il;dsimp only
       rw [show (e==0)=false by simpa using he,Bool.and_false];rfl) (by unfold Il;dsimp only;rw [H9];rfl) _ n1,lB]
      rw [nN m.Zones (zoneE m) (fun _ _ _=>IB) B.toBearZ.many (fun i a ha=>by
       have hi:=G1 ha;have hm:=B.toBearZ.many;unfold Ik;dsimp only
       rw [J8 hi,C8 ha,bQ,show ((0:Int)==0)=true from rfl,bM,lB,nK B.toBear B.toBearZ ha,G4 hi (by omega)];rfl) (fun i e he=>by
       unfold Ik;dsimp only
       rw [show (e==0)=false by simpa using he,Bool.and_false];rfl) (by unfold Ik;dsimp only;rw [H9];rfl) _ n2,lB]
      rw [nN m.Works (workE m) (fun _ _ _=>OY) B.toBearW.many (fun i a ha=>by
       have hi:=G1 ha;have hm:=B.toBearW.many;unfold Ij;dsimp only
       rw [J8 hi,C8 ha,bQ,show ((0:Int)==0)=true from rfl,bM,lB,nM B.toBear (i:=i) a,G4 hi (by omega)];rfl) (fun i e he=>by
       unfold Ij;dsimp only
       rw [show (e==0)=false by simpa using he,Bool.and_false];rfl) (by unfold Ij;dsimp only;rw [H9];rfl) _ n3,lB]
      rw [Option.or_assoc,Option.or_assoc]
theorem Pf {m:Map}(B:BearM m):Cw m=some (Xy m):=by
  have hb:=B.lanes;have s0:Q0 m 0=(Bj ⟨m⟩).bind fun v2=>cond (v2 !=0) (some (.out (.inr v2))) (some (.go 1)):=rfl;have s1:Q0 m 1=(W5 ⟨m⟩).bind fun v2=>cond (v2 !=0) (some (.out (.inr v2))) (some (.go 2)):=rfl;have s2:Q0 m 2=(V4 ⟨m⟩).bind fun v2=>cond (v2 !=0) (some (.out (.inr v2))) (some (.go 3)):=rfl;have s3:Q0 m 3=(U3 ⟨m⟩).bind fun v2=>cond (v2 !=0) (some (.out (.inr v2))) (some (.go 4)):=rfl;have s4:Q0 m 4=(W6 ⟨m⟩).bind fun v2=>cond (v2 !=0) (some (.out (.inr v2))) (some (.go 5)):=rfl;have s5:Q0 m 5=(W7 ⟨m⟩).bind fun v2=>cond (v2 !=0) (some (.out (.inr v2))) (some (.go 6)):=rfl;have s6:Q0 m 6=some (.out (.inl ())):=rfl
  have stp: ∀(i j:Int) (e:Option Int) (X:Option Int),(∀e',e=some e'→e'≠0)→X=some (e.getD 0)→Q0 m i=X.bind (fun v2=>cond (v2 !=0) (some (.out (.inr v2))) (some (.go j)))→loop (Q0 m) i=match e with|some e'=>some (.inr e')|none=>loop (Q0 m) j:=by
    intro i j e X he hX hs;subst hX;rw [lB]at hs;cases e with
    |none=>exact K1 hs
    |some e'=>
     rw [Option.getD_some,show (e' !=0)=true by simpa using he e' rfl]at hs;exact D3 hs
  unfold Cw Xy
  have hnum:Bj ⟨m⟩=some ((if Yf m.Version 0 1099511627776=false then some 2 else if m.Lanes.length=0 then some 6 else if 12<m.Lanes.length∨12<m.Zones.length∨4<m.Signals.length∨8<m.Works.length then some 8 else none:Option Int).getD 0):=by
    unfold Bj;dsimp only;rw [Ty,lB];cases Yf m.Version 0 1099511627776
    ·rfl
    ·simp only [bU,bN,Bool.true_eq_false,if_false];by_cases h1:m.Lanes.length=0
     ·rw [bO h1,h1];rfl
     ·rw [bP h1,show ((m.Lanes.length:Int)==0)=false by simp only [beq_eq_false_iff_ne];omega,bN];by_cases h2:12<m.Lanes.length∨12<m.Zones.length∨4<m.Signals.length∨8<m.Works.length
      ·rw [bO h2,show ((((decide ((m.Lanes.length:Int)>12))||(decide ((m.Zones.length:Int)>12)))||(decide ((m.Signals.length:Int)>4)))||(decide ((m.Works.length:Int)>8)))=true by simp;omega];rfl
      ·rw [bP h2,show ((((decide ((m.Lanes.length:Int)>12))||(decide ((m.Zones.length:Int)>12)))||(decide ((m.Signals.length:Int)>4)))||(decide ((m.Works.length:Int)>8)))=false by simp;omega];rfl
  rw [stp 0 1 _ _ (by repeat' split
                      all_goals (intro e' h;first|(cases h;decide)|cases h)) hnum s0]
  by_cases q1:Yf m.Version 0 1099511627776=false
  ·rw [bO q1,bO q1];rfl
  ·rw [bP q1,bP q1];by_cases q2:m.Lanes.length=0
   ·rw [bO q2,bO q2];rfl
   ·rw [bP q2,bP q2];by_cases q3:12<m.Lanes.length∨12<m.Zones.length∨4<m.Signals.length∨8<m.Works.length
    ·rw [bO q3,bO q3];rfl
    ·rw [bP q3,bP q3];dsimp only;rw [stp 1 2 _ _ (fun e' h=>Cj (fun _ _ _=>OT) h) (nF B.toBear) s1];cases H:J0 (laneE m.Lanes.length) 0 m.Lanes with
     |some e=>rfl
     |none=>
      dsimp only;rw [stp 2 3 _ _ (fun e' h=>Cj (fun _ _ _=>OZ) h) (RX B.toBear H).1 s2];cases J0 (nextE m) 0 m.Lanes with
      |some e=>rfl
      |none=>
       dsimp only;rw [stp 3 4 _ _ (fun e' h=>Cj (fun _ _ _=>Zh) h) (aV B.toBear B.toBearS) s3];cases J0 (signalE m) 0 m.Signals with
       |some e=>rfl
       |none=>
        dsimp only;rw [stp 4 5 _ _ (fun e' h=>Cj (fun _ _ _=>IB) h) (nJ B.toBear B.toBearZ) s4];cases J0 (zoneE m) 0 m.Zones with
        |some e=>rfl
        |none=>
         dsimp only;rw [stp 5 6 _ _ (fun e' h=>Cj (fun _ _ _=>OY) h) (nL B.toBear B.toBearW) s5];cases J0 (workE m) 0 m.Works with
         |some e=>rfl
         |none=>dsimp only;rw [D3 s6];rfl
structure ValR (m:Map):Prop where
  ver:0≤m.Version∧m.Version≤1099511627776
  pos:0<m.Lanes.length
  lanes:m.Lanes.length≤12
  zones:m.Zones.length≤12
  signals:m.Signals.length≤4
  works:m.Works.length≤8
  laneE:J0 (laneE m.Lanes.length) 0 m.Lanes=none
  nextE:J0 (nextE m) 0 m.Lanes=none
  signalE:J0 (signalE m) 0 m.Signals=none
  zoneE:J0 (zoneE m) 0 m.Zones=none
  workE:J0 (workE m) 0 m.Works=none
theorem gN {α:Type}{g:Nat→α→Option Int}{l:List α}(h: ∀i a e,g i a=some e→e≠0)(h0:(J0 g 0 l).getD 0=0):J0 g 0 l=none:=by
  cases q:J0 g 0 l with
  |none=>rfl
  |some e=>rw [q]at h0;exact absurd h0 (Cj h q)
theorem chkR_zero {m:Map}:Xy m=0↔ValR m:=by
  unfold Xy;constructor
  ·intro h;split at h
   ·cases h
   ·rename_i h1;split at h
    ·cases h
    ·rename_i h2;split at h
     ·cases h
     ·rename_i h3;simp only [Yf,Bool.not_eq_false,bS,bJ]at h1
      have key: ∀{o r:Option Int},(∀e,o=some e→e≠0)→(o.or r).getD 0=0→o=none∧r.getD 0=0:=by
        intro o r ho hr;cases o with
        |none=>exact ⟨rfl,hr⟩
        |some e=>exact absurd hr (ho e rfl)
      obtain ⟨a1,h⟩:=key (fun e h=>Cj (fun _ _ _=>OT) h) h;obtain ⟨a2,h⟩:=key (fun e h=>Cj (fun _ _ _=>OZ) h) h;obtain ⟨a3,h⟩:=key (fun e h=>Cj (fun _ _ _=>Zh) h) h;obtain ⟨a4,h⟩:=key (fun e h=>Cj (fun _ _ _=>IB) h) h;exact ⟨h1,by omega,by omega,by omega,by omega,by omega,a1,a2,a3,a4,gN (fun _ _ _=>OY) h⟩
  ·rintro ⟨h1,h2,h3,h4,h5,h6,a1,a2,a3,a4,a5⟩;rw [bP (by simp only [Yf,Bool.not_eq_false,bS,bJ];exact h1),bP (by omega),bP (by omega),a1,a2,a3,a4,a5];rfl
section
variable {m:Map}
theorem ValR.laneOK (V:ValR m){i:Nat}{l:Lane}(h:m.Lanes[i]? =some l):LaneOK m.Lanes.length i l:=CH V.laneE h
theorem ValR.next (V:ValR m){i:Nat}{l:Lane}(h:m.Lanes[i]? =some l){k:Int}(hk:k∈l.Next):(i:Int)<k∧k<m.Lanes.length:=by
  have:=Mh (V.laneOK h).next k hk;omega
end
def nextOf (m:Map)(a:Nat):List Int:=((m.Lanes[a]?).map (·.Next)).getD []
theorem ValR.nextOf {m:Map}(V:ValR m){a:Nat}{k:Int}(hk:k∈World.nextOf m a):(a:Int)<k∧k<m.Lanes.length:=by
  unfold World.nextOf at hk;cases h:m.Lanes[a]? with
  |none=>rw [h]at hk;cases hk
  |some l=>rw [h]at hk;exact V.next h hk
def Vh (m:Map)(b:Int):Nat→Nat→Bool
  |0,_=>false
  |n+1,a=>(nextOf m a).any fun k=>k==b||Vh m b n k.toNat
theorem XO {m:Map}(V:ValR m)(b:Int): ∀(n n' a:Nat),m.Lanes.length≤a+n→m.Lanes.length≤a+n'→Vh m b n a=Vh m b n' a:=by
  intro n
  induction n with
  |zero=>
   intro n' a h h'
   have:nextOf m a= []:=by
     unfold nextOf;rw [lJ (by omega)];rfl
   cases n' with
   |zero=>rfl
   |succ n'=>rw [Vh,Vh,this];rfl
  |succ n ih=>
   intro n' a h h';cases n' with
   |zero=>
    have:nextOf m a= []:=by
      unfold nextOf;rw [lJ (by omega)];rfl
    rw [Vh,Vh,this];rfl
   |succ n'=>
    rw [Vh,Vh];rw [Bool.eq_iff_iff,lZ,lZ];refine exists_congr fun k=>and_congr_right fun hk=> ?_;have:=V.nextOf hk;rw [ih n' k.toNat (by omega) (by omega)]
def Vi (m:Map)(a:Nat)(b:Int):Bool:=Vh m b m.Lanes.length a
theorem DI {m:Map}(V:ValR m)(a:Nat)(b:Int):Vi m a b=(nextOf m a).any fun k=>k==b||Vi m k.toNat b:=by
  unfold Vi;rw [XO V b _ (m.Lanes.length+1) a (by omega) (by omega),Vh]
structure Reach (m:Map)(i:Nat)(l:List Nat):Prop where
  len:l.length=12
  small: ∀(a x:Nat),l[a]? =some x→x<2^32
  zero: ∀(a:Nat),a<i→l[a]? =some 0
  bits: ∀(a x:Nat),i≤a→a<m.Lanes.length→l[a]? =some x→∀b:Nat,x.testBit b=Vi m a (b:Int)
theorem Reach.get {m:Map}{i:Nat}{l:List Nat}(R:Reach m i l){a:Nat}(h:a<12): ∃x,l[a]? =some x∧x<2^32:=by
  have:=R.len;exact ⟨l[a],lH (by omega),R.small a _ (lH (by omega))⟩
theorem RY {m:Map}(V:ValR m){b:Int}: ∀(n a:Nat),m.Lanes.length≤a+n→Vi m a b=true→(a:Int)<b∧b<m.Lanes.length
  |0,a,hn,h=>by
   rw [DI V]at h
   have:nextOf m a= []:=by
     unfold nextOf;rw [lJ (by omega)];rfl
   rw [this]at h;cases h
  |n+1,a,hn,h=>by
   rw [DI V,lZ]at h;obtain ⟨k,hk,h⟩:=h;have:=V.nextOf hk;rcases bT _ _▸h with h|h
   ·have:=eq_of_beq h;omega
   ·have:=RY V n k.toNat (by omega) h;omega
theorem nO {m:Map}(V:ValR m){a:Nat}{b:Int}(h:Vi m a b=true):(a:Int)<b∧b<m.Lanes.length:=RY V m.Lanes.length a (by omega) h
theorem KN {m:Map}(V:ValR m){b:Nat}{c:Int}(h2:Vi m b c=true): ∀(n a:Nat),m.Lanes.length≤a+n→Vi m a (b:Int)=true→Vi m a c=true
  |0,a,hn,h=>by have:=nO V h;omega
  |n+1,a,hn,h=>by
   rw [DI V,lZ]at h ⊢;obtain ⟨k,hk,h⟩:=h;have:=V.nextOf hk;refine ⟨k,hk,?_⟩;rcases bT _ _▸h with h|h
   ·have e:=eq_of_beq h;subst e;rw [wF,h2,Bool.or_true]
   ·rw [KN V h2 n k.toNat (by omega) h,Bool.or_true]
noncomputable def XP (m:Map)(k:Int):Bool:=(decide (k≥0)&&decide (k<m.Lanes.length))&& (Xy m==0)
theorem isM_true {m:Map}{k:Int}:XP m k=true↔0≤k∧k<m.Lanes.length∧ValR m:=by
  unfold XP;rw [bS,bS,bZ,chkR_zero];simp only [bJ,and_assoc,ge_iff_le]
theorem CJ {m:Map}(B:BearM m)(k:Int):Mu m k=some (XP m k):=by
  unfold Mu XP;rw [Pf B];cases (decide (k≥0)&&decide (k< (m.Lanes.length:Int)))<;>rfl
theorem EO {m:Map}(B:BearM m)(k:Int):Qm m k=some (XP m k):=by
  unfold Qm XP;rw [Vg B];cases (decide (k≥0)&&decide (k< (m.Lanes.length:Int)))<;>rfl
theorem AD {m:Map}(B:BearM m){k:Int}(h0:0≤k)(h1:k<m.Lanes.length):Md m k=some (R8 m k):=by
  obtain ⟨l,e1,e2⟩:=OX B.toBear h0 h1;unfold Md;rw [e1,lB,e2];rfl
noncomputable def Fi (m:Map)(k:Int):Int:=if XP m k then R8 m k else 0
theorem Kk {m:Map}(B:BearM m)(k:Int):Cp m k=some (Fi m k):=by
  unfold Cp Fi;rw [CJ B,lB];cases h:XP m k
  ·rfl
  ·have:=isM_true.1 h;rw [bO rfl,bU,bN,MB B.toBear this.1 this.2.1];rfl
theorem LV {m:Map}(B:BearM m)(k:Int):Pd m k=some (Fi m k):=by
  unfold Pd Fi;rw [EO B,lB];cases h:XP m k
  ·rfl
  ·have:=isM_true.1 h;rw [bO rfl,bU,bN,AD B this.1 this.2.1];rfl
theorem CK (l:List Int)(hl:l.length≤1000000)(k:Int):O7 l k=some (l.contains k):=by
  unfold O7 T0
  rw [Sc l (fun x=>k==x) (by omega) (fun i a h=>by
   have hi:=G1 h;unfold U9;rw [J8 hi,C8 h,bM,lB]
   cases k==a<;>rfl) (by unfold U9;rw [H9];rfl)]
  rw [lB,Xw,List.contains_eq_any_beq]
theorem aX (l:List Int)(hl:l.length≤1000000)(k:Int):Qj l k=some (l.contains k):=by
  unfold Qj
  rw [KM l (fun x=>x==k) true (fun i a h=>by
   have hi:=G1 h;unfold Pc;rw [J8 hi,C8 h,bM,lB,G4 hi (by omega)]
   cases a==k<;>rfl) (by unfold Pc;rw [H9];rfl)]
  rw [List.contains_eq_any_beq,show (fun x=>x==k)=(fun x=>k==x) from funext fun x=>by rw [Bool.beq_comm]];cases l.any fun x=>k==x<;>rfl
def Di (m:Map)(k:Int):List Int:=Hr (fun i (l:Lane)=>if l.Next.contains k then some (i:Int)else none) 0 m.Lanes
theorem gO {m:Map}(B:BearM m)(k:Int):Gd m k=some (Di m k):=by
  unfold Gd Di;have hb:=B.lanes
  rw [JK m.Lanes (fun i (l:Lane)=>if l.Next.contains k then some (i:Int)else none) id (fun i l s h hs=>by
   have hi:=G1 h;unfold Bo;dsimp only;rw [J8 hi,C8 h,bM,lB,CK _ (B.toBear.pts l (lG h)).2,lB,Ia (by simp;omega),G4 hi (by omega)]
   cases l.Next.contains k<;>rfl) (fun s=>by unfold Bo;rw [H9];rfl)]
  rfl
theorem PA {m:Map}(B:BearM m)(k:Int):Mc m k=some (Di m k):=by
  unfold Mc Di;have hb:=B.lanes
  rw [JK m.Lanes (fun i (l:Lane)=>if l.Next.contains k then some (i:Int)else none) id (fun i l s h hs=>by
   have hi:=G1 h;unfold Kf;dsimp only;rw [J8 hi,C8 h,bM,lB,aX _ (B.toBear.pts l (lG h)).2,lB,Ia (by simp;omega),G4 hi (by omega)]
   cases l.Next.contains k<;>rfl) (fun s=>by unfold Kf;rw [H9];rfl)]
  rfl
def V1 (m:Map):List Int:=Hr (fun i (_:Lane)=>if (Di m (i:Int)).length=0 then some (i:Int)else none) 0 m.Lanes
theorem XQ {m:Map}(B:BearM m):Mw m=some (V1 m):=by
  unfold Mw V1;have hb:=B.lanes
  rw [JK m.Lanes (fun i (_:Lane)=>if (Di m (i:Int)).length=0 then some (i:Int)else none) id (fun i l s h hs=>by
   have hi:=G1 h;unfold Is;dsimp only;rw [J8 hi,bM,PA B,lB,Ia (by simp;omega),G4 hi (by omega)];by_cases q:(Di m (i:Int)).length=0
   ·rw [bO q,q];rfl
   ·rw [bP q,show (((Di m (i:Int)).length:Int)==0)=false by simp only [beq_eq_false_iff_ne];omega];rfl) (fun s=>by unfold Is;rw [H9];rfl)]
  rfl
def Nv (z:Zone)(k:Int):Part×Bool:=match z.Parts.find? (fun p=>p.Lane_==k)with|some p=>(p,true)|none=>(⟨0,0,0,0⟩,false)
theorem rW {z:Zone}(hl:z.Parts.length≤1000000)(k:Int):Lf z k=some (Nv z k):=by
  unfold Lf K9 Nv
  rw [Sc z.Parts (fun p=>p.Lane_==k) (by omega) (fun i a h=>by
   have hi:=G1 h;unfold N3 Ov;rw [J8 hi,C8 h,bM,lB,lB]
   cases a.Lane_==k<;>rfl) (by unfold N3;rw [H9];rfl),lB]
  unfold HZ;cases h:z.Parts.findIdx? (fun p=>p.Lane_==k)with
  |none=>
   have:z.Parts.find? (fun p=>p.Lane_==k)=none:=by
     rw [List.find?_eq_none];have:=List.findIdx?_eq_none_iff.1 h;intro x hx;simpa using this x hx
   rw [this];rfl
  |some i=>
   obtain ⟨hi,h1,h2⟩:=List.findIdx?_eq_some_iff_getElem.1 h
   have:z.Parts.find? (fun p=>p.Lane_==k)=some z.Parts[i]:=by
     rw [List.find?_eq_some_iff_getElem];exact ⟨h1,i,hi,rfl,fun j hj=>by simpa using h2 j hj⟩
   rw [this];dsimp only;rw [show decide ((i:Int)<0)=false from bI (by omega),bN,mL hi];rfl
structure ZoneOK (m:Map)(z:Zone):Prop where
  two:2≤z.Parts.length
  six:z.Parts.length≤6
  sig:0≤z.Signal_∧z.Signal_≤m.Signals.length
  rise:Dh m.Lanes.length 0 (z.Parts.map (·.Lane_))=true
  part: ∀p∈z.Parts,0≤p.From∧p.From<p.To∧p.To≤R8 m p.Lane_∧0≤p.Rank∧p.Rank≤100
theorem aY {m:Map}{i:Nat}{z:Zone}(h:zoneE m i z=none):ZoneOK m z:=by
  unfold zoneE at h;split at h
  ·cases h
  ·rename_i h1;split at h
   ·cases h
   ·rename_i h2;split at h
    ·cases h
    ·rename_i h3;split at h
     ·cases h
     ·rename_i h4;split at h
      ·cases h
      ·rename_i h5;refine ⟨by omega,by omega,by omega,by simpa using h4,fun p hp=> ?_⟩;have:=List.any_eq_false.1 (bX.2 h5) p hp;simp only [Wh,bT,bJ,not_or,Int.not_lt,Int.not_le,ge_iff_le,gt_iff_lt]at this;omega
theorem ValR.zoneOK {m:Map}(V:ValR m){z:Zone}(hz:z∈m.Zones):ZoneOK m z:=by
  obtain ⟨i,hi,rfl⟩:=List.mem_iff_getElem.1 hz;have:=firstE_none.1 V.zoneE i _ (lH hi);exact aY this
theorem ZoneOK.lane {m:Map}{z:Zone}(O:ZoneOK m z){p:Part}(hp:p∈z.Parts):0≤p.Lane_∧p.Lane_<m.Lanes.length:=Mh O.rise p.Lane_ (List.mem_map.2 ⟨p,hp,rfl⟩)
theorem eF {m:Map}{k:Int}(h0:0≤k)(h1:k<m.Zones.length): ∃z,m.Zones[k.toNat]? =some z∧C4 m.Zones k=some z:=by
  have hlt:k.toNat<m.Zones.length:=by omega
  refine ⟨m.Zones[k.toNat],lH hlt,?_⟩;unfold C4;rw [bO h0,lH hlt]
theorem IC (l:List Int)(hl:l.length≤1000000):Pe l l=some true:=by
  unfold Pe
  rw [KM l (fun _=>false) false (fun i a h=>by
   have hi:=G1 h;unfold Kh;rw [J8 hi,C8 h,G4 hi (by omega)]
   simp) (by unfold Kh;rw [H9];rfl)]
  simp [thenS]
theorem nP:Jf=some true:=law04_awake_le _ (by decide+kernel)
theorem Ju (n:Int){m:Int}(hm:0<m):0≤n % m∧n % m<m:=⟨wR n (by omega),wS n hm⟩
theorem RZ {n m:Int}(hm:0<m):n % m=if n.tmod m<0 then n.tmod m+m else n.tmod m:=by
  have a:=wR n (show m≠0 by omega);have b:=wS n hm;rw [Int.tmod_eq_emod];by_cases q:0≤n∨m ∣ n
  ·rw [bO q,bP (by omega)];omega
  ·rw [bP q];have:n % m≠0:=fun e=>q (.inr (Int.dvd_of_emod_eq_zero e));rw [bO (by omega)];omega
theorem Vj {n m:Int}(hm:0<m)(hm2:m≤9223372036854775807):Tl n m=some (n % m):=by
  have h1:=RZ (n:=n) hm;have a:=Ju n hm;unfold Tl Yo;rw [bP (by omega),lB];by_cases q:n.tmod m<0
  ·rw [bO q]at h1;rw [bH q,bM,H4 (by omega),← h1]
  ·rw [bP q]at h1;rw [bI q,bN,← h1]
theorem Zi {n m:Int}(hm:0<m)(hm2:m≤9223372036854775807):Qq n m=some (n % m):=by
  have h1:=RZ (n:=n) hm;have a:=Ju n hm;unfold Qq Yo;rw [bP (by omega),lB];by_cases q:n.tmod m<0
  ·rw [bO q]at h1;rw [bH q,bM,H4 (by omega),← h1]
  ·rw [bP q]at h1;rw [bI q,bN,← h1]
def UO (kind lim:Int)(next:List Int)(a b c d:Int):Lane:=⟨kind,⟨[⟨a,b⟩,⟨c,d⟩]⟩,if kind=3 then 500 else 1500,lim,next⟩
theorem rX (kind lim:Int)(next:List Int)(a b c d:Int):V6 kind lim next [a,b,c,d]=some (UO kind lim next a b c d):=by
  unfold V6 UO;rw [K1 (s':=(2,[⟨a,b⟩])) rfl,K1 (s':=(4,[⟨a,b⟩,⟨c,d⟩])) rfl,D3 (t:= [⟨a,b⟩,⟨c,d⟩]) rfl,lB];by_cases h:kind=3
  ·rw [bO h,h];rfl
  ·rw [bP h,show (kind==3)=false by simpa using h];rfl
def xG (off a b:Int):Signal:=⟨off,[⟨12,[a]⟩,⟨5,[]⟩,⟨9,[b]⟩,⟨4,[]⟩]⟩
structure Par where
  lim:Int
  r:Int
  o:Int
  o':Int
  ver:Int
  wk:List Work
structure ParOK (p:Par):Prop where
  lim:p.lim=1500∨p.lim=600∨p.lim=1000∨p.lim=300
  r:p.r=0∨p.r=1
  o:0≤p.o∧p.o<31
  o':0≤p.o'∧p.o'<31
  ver:0≤p.ver∧p.ver<5
  wk:p.wk= []∨∃b l,0≤b∧b<40∧0≤l∧l≤400∧p.wk= [⟨0,10000,15000,b,b+20,l⟩]
def Nn (k:Nat)(lim:Int):List Lane:=match k with
  |0=> [UO 1 lim [] 0 0 60000 0]
  |1|2=> [UO 1 lim [] 0 0 50000 0,UO 1 1500 [] 30000 (-20000) 30000 20000]
  |3=> [UO 1 lim [1,2] 0 0 30000 0,UO 1 1500 [] 30000 0 60000 0,UO 1 800 [] 30000 0 54000 10000]
  |4=> [UO 1 lim [2] 0 0 30000 0,UO 1 1500 [2] 6000 (-10000) 30000 0,UO 1 1500 [] 30000 0 60000 0]
  |5=> [UO 1 lim [1] 0 0 20000 0,UO 1 lim [] 20000 0 50000 0,UO 3 200 [] 35000 (-8000) 35000 8000]
  |_=> [UO 1 lim [1,2] 0 0 20000 0,UO 1 1500 [] 20000 0 50000 0,UO 1 1000 [] 20000 0 44000 10000,UO 2 700 [] 36000 (-12000) 36000 18000]
def FZ (k:Nat)(r:Int):List Zone:=match k with
  |1=> [⟨[⟨0,28000,32000,r⟩,⟨1,18000,22000,2 - 2*r⟩],0⟩]
  |2=> [⟨[⟨0,28000,32000,r⟩,⟨1,18000,22000,2 - 2*r⟩],1⟩]
  |4=> [⟨[⟨0,25000,30000,1⟩,⟨1,20000,26000,0⟩,⟨2,0,5000,0⟩],0⟩]
  |5=> [⟨[⟨1,14000,16000,0⟩,⟨2,6000,10000,3⟩],0⟩]
  |6=> [⟨[⟨1,14000,18000,1⟩,⟨3,10000,14000,0⟩],0⟩,⟨[⟨2,14000,21000,1⟩,⟨3,14500,23000,0⟩],0⟩]
  |7=> [⟨[⟨1,14000,18000,1⟩,⟨3,10000,14000,0⟩],1⟩,⟨[⟨2,14000,21000,1⟩,⟨3,14500,23000,0⟩],2⟩]
  |_=> []
def Xz (k:Nat)(o o':Int):List Signal:=match k with
  |2=> [xG o 0 1]
  |7=> [xG o 1 3,xG o' 2 3]
  |_=> []
def ID (k:Nat)(p:Par):Map:=⟨p.ver,Nn k p.lim,FZ k p.r,Xz k p.o p.o',p.wk⟩
theorem aZ (n:Int): ∃k p,k<8∧ParOK p∧DH n=some (ID k p):=by
  obtain ⟨h0,h1⟩:=Ju n (show (0:Int)<16777216 by decide);unfold DH;rw [Vj (by decide) (by decide),lB];generalize n % 16777216=v at h0 h1;have t: ∀m:Int,0<m→v.tdiv m=v / m:=fun m hm=>by rw [wP h0]
  have u: ∀x m:Int,0≤x→x.tmod m=x % m:=fun x m hx=>by rw [wQ hx]
  have d: ∀m:Int,0<m→0≤v / m∧v / m<16777216:=fun m hm=>⟨Int.ediv_nonneg h0 (by omega),Int.lt_of_le_of_lt (Int.ediv_le_self m h0) h1⟩;have W: ∀m:Int,0<m→E5 (v / m)=v / m:=fun m hm=>H4 (by have:=d m hm;omega);rw [t 7 (by decide),t 28 (by decide),t 56 (by decide),t 1736 (by decide),t 5208 (by decide),t 208320 (by decide)];rw [W 7 (by decide),W 28 (by decide),W 56 (by decide),W 1736 (by decide),W 5208 (by decide),W 208320 (by decide)];rw [u (v / 7) _ (d 7 (by decide)).1,u (v / 28) 2 (d 28 (by decide)).1,u (v / 28) 31 (d 28 (by decide)).1,u (v / 56) 31 (d 56 (by decide)).1,u (v / 56) 17 (d 56 (by decide)).1,u (v / 1736) _ (d 1736 (by decide)).1,u (v / 5208) _ (d 5208 (by decide)).1,u (v / 208320) _ (d 208320 (by decide)).1,u v _ h0,u (v / 28) 5 (d 28 (by decide)).1];have b1:=Ju (v / 7) (show (0:Int)<4 by decide);have b2:=Ju (v / 28) (show (0:Int)<2 by decide);have b3:=Ju (v / 28) (show (0:Int)<31 by decide);have b4:=Ju (v / 56) (show (0:Int)<31 by decide);have b5:=Ju (v / 56) (show (0:Int)<17 by decide);have b6:=Ju (v / 5208) (show (0:Int)<40 by decide);have b7:=Ju (v / 208320) (show (0:Int)<3 by decide);have b8:=Ju v (show (0:Int)<7 by decide);have b9:=Ju (v / 28) (show (0:Int)<5 by decide);generalize v / 7 % 4=q1 at b1;generalize v / 28 % 2=q2 at b2;generalize v / 28 % 31=q3 at b3;generalize v / 56 % 31=q4 at b4;generalize v / 56 % 17=q5 at b5;generalize v / 5208 % 40=q6 at b6;generalize v / 208320 % 3=q7 at b7;generalize v % 7=q8 at b8;generalize v / 28 % 5=q9 at b9
  have e1: ∃lim:Int,C4 ([1500,600,1000,300]:List Int) q1=some lim∧(lim=1500∨lim=600∨lim=1000∨lim=300):=by
    rcases (show q1=0∨q1=1∨q1=2∨q1=3 by omega)with rfl|rfl|rfl|rfl
    ·exact ⟨1500,rfl,by decide⟩
    ·exact ⟨600,rfl,by decide⟩
    ·exact ⟨1000,rfl,by decide⟩
    ·exact ⟨300,rfl,by decide⟩
  obtain ⟨lim,e1,hlim⟩:=e1;rw [e1,lB]
  have ew: ∀(L:List Lane) (Z:List Zone) (S:List Signal),∃wk,(wk= []∨∃b l,0≤b∧b<40∧0≤l∧l≤400∧wk= [⟨0,10000,15000,b,b+20,l⟩])∧
   (cond (v / 1736 % 3==1) (some (Map.mk q9 L Z S [(Work.mk 0 10000 15000 q6 (E5 (q6+20)) (E5 (q7*200)))])) (some (Map.mk q9 L Z S [])))=some ⟨q9,L,Z,S,wk⟩:=by
    intro L Z S;cases v / 1736 % 3==1
    ·exact ⟨[], .inl rfl,rfl⟩
    ·exact ⟨[⟨0,10000,15000,q6,q6+20,q7*200⟩], .inr ⟨q6,q7*200,by omega,by omega,by omega,by omega,rfl⟩,by rw [H4 (by omega),H4 (by omega)];rfl⟩
  have er:E5 (2 - E5 (2*q2))=2 - 2*q2:=by rw [H4 (n:=2*q2) (by omega),H4 (by omega)]
  rw [er];simp only [rX,lB]
  have fin: ∀(k:Nat) (o o':Int) (L:List Lane) (Z:List Zone) (S:List Signal),k<8→0≤o∧o<31→0≤o'∧o'<31→L=Nn k lim→Z=FZ k q2→S=Xz k o o'→∃k p,k<8∧ParOK p∧(cond (v / 1736 % 3==1) (some (Map.mk q9 L Z S [(Work.mk 0 10000 15000 q6 (E5 (q6+20)) (E5 (q7*200)))])) (some (Map.mk q9 L Z S [])))=some (ID k p):=by
    intro k o o' L Z S hk h1 h2 e1 e2 e3;obtain ⟨wk,w1,w2⟩:=ew L Z S;subst e1 e2 e3;exact ⟨k,⟨lim,q2,o,o',q9,wk⟩,hk,⟨hlim,by dsimp only;omega,h1,h2,b9,w1⟩,w2⟩
  rcases (show q8=0∨q8=1∨q8=2∨q8=3∨q8=4∨q8=5∨q8=6 by omega)with rfl|rfl|rfl|rfl|rfl|rfl|rfl
  ·exact fin 0 0 0 _ _ _ (by decide) (by decide) (by decide) rfl rfl rfl
  ·exact fin 1 0 0 _ _ _ (by decide) (by decide) (by decide) rfl rfl rfl
  ·exact fin 2 q3 0 _ _ _ (by decide) b3 (by decide) rfl rfl rfl
  ·exact fin 3 0 0 _ _ _ (by decide) (by decide) (by decide) rfl rfl rfl
  ·exact fin 4 0 0 _ _ _ (by decide) (by decide) (by decide) rfl rfl rfl
  ·exact fin 5 0 0 _ _ _ (by decide) (by decide) (by decide) rfl rfl rfl
  ·rcases (show q2=0∨q2=1 by omega)with rfl|rfl
   ·exact fin 6 0 0 _ _ _ (by decide) (by decide) (by decide) rfl rfl rfl
   ·exact fin 7 q4 q5 _ _ _ (by decide) b4 (by omega) rfl rfl rfl
theorem gP:((List.range 8).all fun k=>([1500,600,1000,300]:List Int).all fun lim=>([0,1]:List Int).all fun r=>(@Cw X4) (ID k ⟨lim,r,0,0,0,[]⟩)==some 0)=true:=by decide+kernel
theorem XR (k:Nat)(lim:Int):(Nn k lim).length≤4∧∀l∈Nn k lim,l.Curve_.Pts.length=2∧l.Next.length≤2:=by
  unfold Nn;split<;>simp [UO]
theorem KO (k:Nat)(r:Int):(FZ k r).length≤2∧∀z∈FZ k r,z.Parts.length≤3:=by
  unfold FZ;split<;>simp
theorem cA (k:Nat)(o o':Int):(Xz k o o').length≤2∧∀s∈Xz k o o',s.Phases.length=4∧∀p∈s.Phases,p.Green.length≤1:=by
  unfold Xz;split<;>simp [xG]
theorem eG {m:Map}{k:Nat}{lim r o o':Int}(h1:m.Lanes=Nn k lim)(h2:m.Zones=FZ k r)(h3:m.Signals=Xz k o o')(h4:m.Works.length≤1):BearM m:=by
  obtain ⟨a1,a2⟩:=XR k lim;obtain ⟨b1,b2⟩:=KO k r;obtain ⟨c1,c2⟩:=cA k o o';refine ⟨⟨by rw [h1];omega,fun l hl=> ?_⟩,⟨by rw [h3];omega,fun s hs=>⟨?_,fun p hp=> ?_⟩⟩,⟨by rw [h2];omega,fun z hz=> ?_⟩,⟨by omega⟩⟩
  ·rw [h1]at hl;have:=a2 l hl;omega
  ·rw [h3]at hs;have:=(c2 s hs).1;omega
  ·rw [h3]at hs;have:=(c2 s hs).2 p hp;omega
  ·rw [h2]at hz;have:=b2 z hz;omega
theorem ParOK.wk1 {p:Par}(h:ParOK p):p.wk.length≤1:=by
  rcases h.wk with e|⟨b,l,_,_,_,_,e⟩<;>rw [e]<;>simp
theorem nQ {k:Nat}{p:Par}(h:ParOK p):BearM (ID k p):=eG rfl rfl rfl h.wk1
theorem xY {k:Nat}{p:Par}(hk:k<8)(h:ParOK p):ValR (ID k ⟨p.lim,p.r,0,0,0,[]⟩):=by
  have h1:=lY.1 gP k (List.mem_range.2 hk);have h2:=lY.1 h1 p.lim (by have:=h.lim;simp;omega);have h3:=lY.1 h2 p.r (by have:=h.r;simp;omega);have h4:=roads_Check_le _ _ (eq_of_beq h3);have h5:=Pf (m:=ID k ⟨p.lim,p.r,0,0,0,[]⟩) (eG rfl rfl rfl (wI 1));rw [h4]at h5;exact chkR_zero.1 (lD h5).symm
theorem ValR.change {L:List Lane}{Z:List Zone}{S S':List Signal}{W W':List Work}{v v':Int}(V:ValR ⟨v,L,Z,S,W⟩)(hv:0≤v'∧v'≤1099511627776)(hl:S'.length=S.length)(hs: ∀s∈S',World.signalE ⟨v,L,Z,S,W⟩ 0 s=none)(hw:W'.length≤8)(hw': ∀w∈W',World.workE ⟨v,L,Z,S,W⟩ 0 w=none):ValR ⟨v',L,Z,S',W'⟩:=by
  refine ⟨hv,V.pos,V.lanes,V.zones,by show S'.length≤4;rw [hl];exact V.signals,hw,V.laneE,V.nextE,?_,?_,?_⟩
  ·rw [firstE_none];intro j a ha;exact hs a (lG ha)
  ·have:=V.zoneE;rw [firstE_none]at this ⊢;intro j a ha;have:=this j a ha;unfold World.zoneE at this ⊢;dsimp only at this ⊢;rw [hl];exact this
  ·rw [firstE_none];intro j a ha;exact hw' a (lG ha)
theorem gQ (k:Nat)(o o' a a':Int):(Xz k o o').length=(Xz k a a').length:=by unfold Xz;split<;>rfl
theorem nR {k:Nat}{o o':Int}(h:0≤o∧o<31)(h':0≤o'∧o'<31){m:Map}(hm:m.Lanes.length=(Nn k 0).length): ∀s∈Xz k o o',signalE m 0 s=none:=by
  have key: ∀(off a b:Int),0≤off∧off<31→0≤a∧a<m.Lanes.length→0≤b∧b<m.Lanes.length→signalE m 0 (xG off a b)=none:=by
    intro off a b h1 h2 h3;unfold signalE xG;simp only [lL,lN];rw [bP (by decide),bP (by decide),bP (by simp [Yf];omega),bP (by simp [Yf]),bP];simp only [List.any_cons,List.any_nil,Dh,Bool.and_true,Bool.or_false,bU,bW,bT,Bool.not_eq_true',not_or,Bool.not_eq_false,bS,bJ];omega
  intro s hs;unfold Xz at hs;split at hs
  ·rw [show (Nn 2 0).length=2 from rfl]at hm;simp only [bG]at hs;subst hs;exact key _ _ _ h (by omega) (by omega)
  ·rw [show (Nn 7 0).length=4 from rfl]at hm;simp only [lU,List.not_mem_nil,or_false]at hs;rcases hs with rfl|rfl
   ·exact key _ _ _ h (by omega) (by omega)
   ·exact key _ _ _ h' (by omega) (by omega)
  ·cases hs
theorem cB (k:Nat)(lim:Int):(Nn k lim).length=(Nn k 0).length:=by unfold Nn;split<;>rfl
theorem DJ (c:Int)(h:(@Dw X4) ⟨[⟨0,0⟩,⟨c,0⟩]⟩=some c):Tn ⟨[⟨0,0⟩,⟨c,0⟩]⟩=c:=by
  have h1:=curve_Length_le _ _ h;rw [AA _ (by simp)]at h1;exact lD h1
theorem KP (k:Nat)(lim:Int): ∃l,(Nn k lim)[0]? =some l∧l.Kind=1∧l.Limit=lim∧20000≤Tn l.Curve_∧Tn l.Curve_≤60000:=by
  have e6:=DJ 60000 (by decide+kernel);have e5:=DJ 50000 (by decide+kernel);have e3:=DJ 30000 (by decide+kernel);have e2:=DJ 20000 (by decide+kernel);unfold Nn;split
  ·exact ⟨_,rfl,rfl,rfl,by show 20000≤Tn ⟨[⟨0,0⟩,⟨60000,0⟩]⟩∧Tn ⟨[⟨0,0⟩,⟨60000,0⟩]⟩≤60000;rw [e6];decide⟩
  ·exact ⟨_,rfl,rfl,rfl,by show 20000≤Tn ⟨[⟨0,0⟩,⟨50000,0⟩]⟩∧Tn ⟨[⟨0,0⟩,⟨50000,0⟩]⟩≤60000;rw [e5];decide⟩
  ·exact ⟨_,rfl,rfl,rfl,by show 20000≤Tn ⟨[⟨0,0⟩,⟨50000,0⟩]⟩∧Tn ⟨[⟨0,0⟩,⟨50000,0⟩]⟩≤60000;rw [e5];decide⟩
  ·exact ⟨_,rfl,rfl,rfl,by show 20000≤Tn ⟨[⟨0,0⟩,⟨30000,0⟩]⟩∧Tn ⟨[⟨0,0⟩,⟨30000,0⟩]⟩≤60000;rw [e3];decide⟩
  ·exact ⟨_,rfl,rfl,rfl,by show 20000≤Tn ⟨[⟨0,0⟩,⟨30000,0⟩]⟩∧Tn ⟨[⟨0,0⟩,⟨30000,0⟩]⟩≤60000;rw [e3];decide⟩
  ·exact ⟨_,rfl,rfl,rfl,by show 20000≤Tn ⟨[⟨0,0⟩,⟨20000,0⟩]⟩∧Tn ⟨[⟨0,0⟩,⟨20000,0⟩]⟩≤60000;rw [e2];decide⟩
  ·exact ⟨_,rfl,rfl,rfl,by show 20000≤Tn ⟨[⟨0,0⟩,⟨20000,0⟩]⟩∧Tn ⟨[⟨0,0⟩,⟨20000,0⟩]⟩≤60000;rw [e2];decide⟩
theorem xZ {m:Map}{l:Lane}(hl:m.Lanes[0]? =some l)(hk:l.Kind=1){w:Work}(h:w.Lane_=0∧0≤w.From∧w.From≤w.To∧w.To≤Tn l.Curve_∧0≤w.Begin∧w.Begin<w.End∧w.End≤1099511627776∧0≤w.Limit∧w.Limit≤2000):workE m 0 w=none:=by
  obtain ⟨h1,h2,h3,h4,h5,h6,h7,h8,h9⟩:=h;have hlen:=G1 hl;unfold workE R8;rw [h1,show ((0:Int).toNat)=0 from rfl,hl,bP (by omega),bP];simp only [lF,Option.getD_some,Option.get!_some,hk,Yf,Y2,if_true,bT,bJ,Bool.not_eq_true',not_or,Bool.not_eq_false,bS];omega
theorem nS {k:Nat}{p:Par}(hk:k<8)(h:ParOK p){W:List Work}(hw:W.length≤8)(hW: ∀w∈W,w.Lane_=0∧0≤w.From∧w.From≤w.To∧w.To≤R8 (ID k p) 0∧0≤w.Begin∧w.Begin<w.End∧w.End≤1099511627776∧0≤w.Limit∧w.Limit≤2000):ValR ⟨p.ver,Nn k p.lim,FZ k p.r,Xz k p.o p.o',W⟩:=by
  have V:=xY hk h;obtain ⟨l,l1,l2,l3,l4,l5⟩:=KP k p.lim;have hv:=h.ver;refine ValR.change (v:=0) (S:=Xz k 0 0) (W:= []) V (by omega) (gQ k _ _ _ _) (fun s hs=>nR h.o h.o' (by exact cB k p.lim) s hs) hw (fun w hwm=> ?_);obtain ⟨a1,a2,a3,a4,a5,a6,a7,a8,a9⟩:=hW w hwm;refine xZ (l:=l) l1 l2 ⟨a1,a2,a3,?_,a5,a6,a7,a8,a9⟩
  have:R8 (ID k p) 0=Tn l.Curve_:=by
    unfold R8 ID;dsimp only;rw [show ((0:Int).toNat)=0 from rfl,l1];rfl
  omega
theorem gR (k:Nat)(p:Par):20000≤R8 (ID k p) 0∧R8 (ID k p) 0≤60000:=by
  obtain ⟨l,l1,l2,l3,l4,l5⟩:=KP k p.lim;unfold R8 ID;dsimp only;rw [show ((0:Int).toNat)=0 from rfl,l1];exact ⟨l4,l5⟩
theorem rY {k:Nat}{p:Par}(hk:k<8)(h:ParOK p):ValR (ID k p):=by
  have hl:=gR k p;refine nS hk h (wL h.wk1 (by decide)) (fun w hw=> ?_);rcases h.wk with e|⟨b,l,h1,h2,h3,h4,e⟩
  ·rw [e]at hw;cases hw
  ·rw [e]at hw;simp only [bG]at hw;subst hw;dsimp only;omega
end Go.Abs.World
namespace Go.Abs
theorem El {α β:Type}{g:Nat→α→Option β}{x:β}: ∀{l:List α} {i:Nat},x∈Hr g i l↔∃j a,l[j]? =some a∧g (i+j) a=some x
  | [],i=>by simp [Hr]
  |a::r,i=>by
   unfold Hr;have ih:=El (g:=g) (x:=x) (l:=r) (i:=i+1)
   have sh:(∃j b,(a::r)[j]? =some b∧g (i+j) b=some x)↔g i a=some x∨∃j b,r[j]? =some b∧g (i+1+j) b=some x:=by
     constructor
     ·rintro ⟨j,b,h1,h2⟩;cases j with
      |zero=>simp at h1;subst h1;exact .inl h2
      |succ j=>exact .inr ⟨j,b,by simpa using h1,by rwa [show i+1+j=i+ (j+1) by omega]⟩
     ·rintro (h|⟨j,b,h1,h2⟩)
      ·exact ⟨0,a,rfl,h⟩
      ·exact ⟨j+1,b,by simpa using h1,by rwa [show i+ (j+1)=i+1+j by omega]⟩
   rw [sh,← ih];cases h:g i a with
   |none=>simp
   |some b=>simp [eq_comm]
end Go.Abs
namespace Go.Abs.World
open Go Go.Abs
theorem mem_before {m:Map}{k x:Int}:x∈Di m k↔∃(i:Nat) (l:Lane),m.Lanes[i]? =some l∧k∈l.Next∧x=(i:Int):=by
  unfold Di;rw [El];refine exists_congr fun i=>exists_congr fun l=>and_congr_right fun _=> ?_;rw [wK];by_cases h:l.Next.contains k=true
  ·rw [bO h];simp only [Option.some.injEq];exact ⟨fun e=>⟨by simpa using h,e.symm⟩,fun e=>e.2.symm⟩
  ·rw [bP h];simp only [reduceCtorEq,false_iff,not_and];intro hk;exact absurd (by simpa using hk) h
theorem mem_origins {m:Map}{x:Int}:x∈V1 m↔0≤x∧x<m.Lanes.length∧Di m x= []:=by
  unfold V1;rw [El];constructor
  ·rintro ⟨i,l,h1,h2⟩;have:=G1 h1;split at h2
   ·rename_i h;cases h2;rw [wK]at h ⊢;exact ⟨by omega,by omega,l8 h⟩
   ·cases h2
  ·rintro ⟨h0,h1,h2⟩;have hlt:x.toNat<m.Lanes.length:=by omega
   refine ⟨x.toNat,m.Lanes[x.toNat],lH hlt,?_⟩;rw [wK,show ((x.toNat:Nat):Int)=x by omega,h2];rfl
theorem UP {m:Map}(V:ValR m){p k:Int}(h:p∈Di m k):0≤p∧p<k∧k<m.Lanes.length∧Vi m p.toNat k=true:=by
  obtain ⟨i,l,h1,h2,rfl⟩:=mem_before.1 h;have hk:=V.next h1 h2;refine ⟨by omega,hk.1,hk.2,?_⟩;rw [DI V,lZ,wF];refine ⟨k,by unfold nextOf;rw [h1];exact h2,by simp⟩
theorem SA {m:Map}(V:ValR m): ∀(n:Nat) (a:Int),0≤a→a<m.Lanes.length→a<n→∃s∈V1 m,s=a∨Vi m s.toNat a=true
  |0,a,h0,h1,h2=>by omega
  |n+1,a,h0,h1,h2=>by
   cases hb:Di m a with
   |nil=>exact ⟨a,mem_origins.2 ⟨h0,h1,hb⟩, .inl rfl⟩
   |cons p r=>
    obtain ⟨p0,p1,p2,p3⟩:=UP V (show p∈Di m a by rw [hb];simp);obtain ⟨s,s1,s2⟩:=SA V n p p0 (by omega) (by omega);refine ⟨s,s1, .inr ?_⟩;rcases s2 with rfl|s2
    ·exact p3
    ·have e:((p.toNat:Nat):Int)=p:=by omega
     exact KN V (b:=p.toNat) p3 m.Lanes.length s.toNat (by omega) (by rw [e];exact s2)
theorem nT: ∀(l:List Int) (s:Int),(∀x∈l,0≤x∧x≤1048576)→0≤s→s+1048576*l.length≤9000000000000000000→s≤FV s l∧FV s l≤s+1048576*l.length
  | [],s,_,_,_=>by simp [FV]
  |a::r,s,h,h0,h1=>by
   have ha:=h a (by simp);simp only [lL]at h1 ⊢;rw [FV,H4 (by omega)];have:=nT r (s+a) (fun x hx=>h x (by simp [hx])) (by omega) (by omega);omega
theorem nU: ∀{l:List Spot} {last:Option CurveVector},Good last l→∀x∈DS l,1000≤x∧x≤1048576:=by
  intro l last h
  induction h with
  |one last p=>intro x hx;simp [DS]at hx
  |cons last p q r h1 h2 h3 h4 h ih=>
   intro x hx;rw [Xu,lU]at hx;rcases hx with rfl|hx
   ·exact ⟨h2,h3⟩
   ·exact ih x hx
theorem rZ {c:Curve}(h:Dq c.Pts=0):1000≤Tn c∧Tn c≤16777216:=by
  have V:=checkM_zero.1 h;unfold Tn Nh;rw [bO h];have h16:=V.most;have h2:=V.two;have hm:=nU V.good;cases hp:c.Pts with
  |nil=>rw [hp]at h2;simp at h2
  |cons p r=>
   rw [hp]at hm h16 h2;cases r with
   |nil=>simp at h2
   |cons q r=>
    simp only [lL]at h16;rw [Xu]at hm ⊢;have ha:=hm _ (List.mem_cons_self);have hl:=Wg r q;rw [FV,H4 (by omega),Int.zero_add];have:=nT (DS (q::r)) (rt (O4 (T5 p q) (T5 p q))) (fun x hx=>by have:=hm x (List.mem_cons_of_mem _ hx);omega) (by omega) (by rw [hl];omega);rw [hl]at this;omega
theorem ValR.long {m:Map}(V:ValR m){k:Int}(h0:0≤k)(h1:k<m.Lanes.length):1000≤R8 m k∧R8 m k≤16777216:=by
  obtain ⟨l,e1,e2⟩:=Wi h0 h1;unfold R8;rw [e1];exact rZ (V.laneOK e1).curve
def Mo (m:Map):Int→List Int→Bool
  |_,[]=>true
  |a,b::r=>(nextOf m a.toNat).contains b&&Mo m b r
noncomputable def Q8 (m:Map)(r:List Int):Int:=
  if Xy m≠0 then Xy m
  else match r with
    | []=>13
    |a::t=>if 7<t.length∨a<0∨(m.Lanes.length:Int)≤a∨Di m a≠ []∨Mo m a t=false then 13 else 0
structure RouteOK (m:Map)(a:Int)(t:List Int):Prop where
  val:ValR m
  most:t.length≤7
  first:0≤a∧a<m.Lanes.length
  source:Di m a= []
  chain:Mo m a t=true
theorem chkRoute_zero {m:Map}{r:List Int}:Q8 m r=0↔∃a t,r=a::t∧RouteOK m a t:=by
  unfold Q8;constructor
  ·intro h;split at h
   ·exact absurd h (by assumption)
   ·rename_i h1;have V:=chkR_zero.1 (Decidable.not_not.1 h1);split at h
    ·cases h
    ·rename_i a t;split at h
     ·cases h
     ·rename_i h2
      exact ⟨a,t,rfl,V,by omega,by omega,Decidable.not_not.1 fun q=>h2 (.inr (.inr (.inr (.inl q)))),by
        cases q:Mo m a t with
        |true=>rfl
        |false=>exact absurd (.inr (.inr (.inr (.inr q)))) h2⟩
  ·rintro ⟨a,t,rfl,V,h1,h2,h3,h4⟩;rw [bP (by rw [chkR_zero.2 V];simp)];dsimp only;rw [bP];rintro (q|q|q|q|q)
   ·omega
   ·omega
   ·omega
   ·exact q h3
   ·rw [h4]at q;cases q
theorem SB {m:Map}(V:ValR m): ∀{t:List Int} {a:Int},Mo m a t=true→0≤a→∀x∈t,a<x∧x<m.Lanes.length
  | [],_,_,_,x,hx=>by cases hx
  |b::r,a,h,h0,x,hx=>by
   rw [Mo,bS,List.contains_iff_mem]at h;have hb:=V.nextOf h.1;rcases lU.1 hx with rfl|hx
   ·omega
   ·have:=SB V h.2 (by omega) x hx;omega
theorem RouteOK.mem {m:Map}{a:Int}{t:List Int}(R:RouteOK m a t){x:Int}(hx:x∈a::t):0≤x∧x<m.Lanes.length:=by
  have:=R.first;rcases lU.1 hx with rfl|hx
  ·exact this
  ·have:=SB R.val R.chain (by omega) x hx;omega
theorem cC {m:Map}(B:BearM m)(V:ValR m)(l:List Int)(hl:l.length≤1000000): ∀(r:List Int) (i:Nat) (a:Int),l.drop i=r→i≤l.length→0≤a→a<m.Lanes.length→loop (R4 m l) (a,(i:Int))=some (if Mo m a r=true then .inl ()else .inr 13):=by
  intro r
  induction r with
  |nil=>
   intro i a hi hil h0 h1;have:=P3 hi;obtain rfl:i=l.length:=by omega
   refine D3 ?_;unfold R4;rw [H9];rfl
  |cons b r ih=>
   intro i a hi hil h0 h1;have hlt:=O3 hi;have hb:=Y3 hi;obtain ⟨ln,e1,e2⟩:=Wi h0 h1
   have hs:R4 m l (a,(i:Int))=some (if ln.Next.contains b=true then .go (b,((i+1:Nat):Int))else .out (.inr 13)):=by
     unfold R4;dsimp only;rw [J8 hlt,C8 hb,bM,lB,e2,lB,CK _ (B.toBear.pts _ (lG e1)).2,lB,G4 hlt (by omega)];cases ln.Next.contains b<;>rfl
   have hn:nextOf m a.toNat=ln.Next:=by unfold nextOf;rw [e1];rfl
   rw [Mo,hn];cases q:ln.Next.contains b
   ·rw [q]at hs;rw [D3 hs];rfl
   ·rw [q]at hs;have hbm:=V.next e1 (List.contains_iff_mem.1 q);rw [K1 hs,ih (i+1) b (L4 hi) (by omega) (by omega) (by omega),bQ]
theorem EP {m:Map}(B:BearM m)(r:List Int)(hr:r.length≤1000000):Y7 m r=some (Q8 m r):=by
  unfold Y7 Q8;rw [Pf B,lB];by_cases q:Xy m=0
  ·have V:=chkR_zero.1 q;rw [bP (by simpa using q),show (Xy m !=0)=false by simpa using q,bN];cases r with
   |nil=>rfl
   |cons a t=>
    dsimp only;simp only [lL]at hr ⊢;by_cases h8:7<t.length
    ·rw [bO (.inl h8),show ((((t.length+1:Nat):Int)==0)||(decide (((t.length+1:Nat):Int)>8)))=true by simp;omega];rfl
    ·rw [show ((((t.length+1:Nat):Int)==0)||(decide (((t.length+1:Nat):Int)>8)))=false by simp;omega];rw [show C4 (a::t) 0=some a from rfl];simp only [bV,bM,lB,bW];by_cases h0:a<0
     ·rw [bO (.inr (.inl h0)),bH h0];rfl
     ·rw [bI h0];simp only [bV,bM,lB,bW];by_cases h1:(m.Lanes.length:Int)≤a
      ·rw [bO (.inr (.inr (.inl h1))),show decide (a≥(m.Lanes.length:Int))=true from bH h1];rfl
      ·rw [show decide (a≥(m.Lanes.length:Int))=false from bI (by omega)];simp only [bV,bM,bW];rw [lB,gO B,lB];by_cases hb:Di m a= []
       ·rw [hb]
        have e1:aE (a::t) 1 ((t.length+1:Nat):Int)=some t:=by
          unfold aE;rw [bO (by simp;omega)];simp
        rw [e1,show decide ((([]:List Int).length:Int)>0)=false from rfl,bN,lB];have:=cC B V t (by omega) t 0 a rfl (by omega) (by omega) (by omega);rw [show ((0:Nat):Int)=0 from rfl]at this;rw [this];by_cases hc:Mo m a t=true
        ·rw [bO hc,bP (by rw [hc];simp;omega)];rfl
        ·rw [bP hc,bO (.inr (.inr (.inr (.inr (by simpa using hc)))))];rfl
       ·rw [bO (.inr (.inr (.inr (.inl hb)))),show decide (((Di m a).length:Int)>0)=true from bH (by have:=List.length_pos_iff.2 hb;omega)];rfl
  ·rw [bO q,show (Xy m !=0)=true by simpa using q];rfl
noncomputable def Q9 (m:Map):Int→List Int→List Int
  |_,[]=> []
  |s,a::r=>s::Q9 m (s+R8 m a) r
noncomputable def Fd (m:Map):Int→List Int→Int
  |s,[]=>s
  |s,a::r=>Fd m (s+R8 m a) r
theorem Nw (m:Map): ∀(r:List Int) (s:Int),(Q9 m s r).length=r.length
  | [],_=>rfl
  |_::r,_=>by rw [Q9,lL,Nw m r,lL]
noncomputable def Bx (m:Map)(r:List Int):RoadsWay:=if Q8 m r=0 then ⟨m,r,Q9 m 0 r,Fd m 0 r⟩else ⟨⟨0,[],[],[],[]⟩,[],[],0⟩
theorem Tz {m:Map}(B:BearM m)(r:List Int)(hr:r.length≤1000000):Av m r=some (Bx m r):=by
  unfold Av Bx;rw [EP B r hr,lB];by_cases q:Q8 m r=0
  ·rw [bO q,q];obtain ⟨a,t,rfl,R⟩:=chkRoute_zero.1 q
   have key: ∀(l:List Int) (i:Nat) (s:Int) (st:List Int),(a::t).drop i=l→i≤(a::t).length→0≤s→s≤16777216*i→st.length=i→loop (Y4 m (a::t)) ((i:Int),(st,s))=some (st++Q9 m s l,Fd m s l):=by
     intro l
     induction l with
     |nil=>
      intro i s st hi hil _ _ _;have:=P3 hi;obtain rfl:i=(a::t).length:=by omega
      refine D3 ?_;unfold Y4;rw [H9,Q9,Fd,lP];rfl
     |cons x l ih=>
      intro i s st hi hil h0 h1 h2;have hlt:=O3 hi;have hx:=Y3 hi;have hm:=R.mem (lG hx);have hl:=R.val.long hm.1 hm.2;have hm7:=R.most;simp only [lL]at hlt;rw [K1 (s':=(((i+1:Nat):Int),(st++ [s],s+R8 m x)))]
      ·rw [ih (i+1) _ _ (L4 hi) (by simp;omega) (by omega) (by omega) (by simp [h2]),Q9,Fd,lO];rfl
      ·unfold Y4;dsimp only;rw [J8 (by simpa using hlt),C8 hx,bM,lB,Ia (by simp;omega),lB,MB B.toBear hm.1 hm.2,lB,G4 hlt (by omega),VB (by omega)]
   have:=key (a::t) 0 0 [] rfl (by omega) (by decide) (by decide) rfl;rw [show ((0:Nat):Int)=0 from rfl]at this;show (loop (Y4 m (a::t)) (0,([],0))).bind _=_;rw [this];rfl
  ·rw [bP q,show (Q8 m r !=0)=true by simpa using q];rfl
noncomputable def Ft (m:Map)(r:List Int)(k:Int):Int:=match m.Zones[k.toNat]? with
  |some z=>if 0≤k∧Q8 m r=0 then HZ (fun l=>(Nv z l).2) r else -1
  |none=> -1
theorem nV {m:Map}(B:BearM m)(r:List Int)(hr:r.length≤1000000)(k:Int):Jc m r k=some (Ft m r k):=by
  unfold Jc Ft;rw [Tz B r hr,lB];by_cases h:k<0∨(m.Zones.length:Int)≤k
  ·rw [show ((decide (k<0))||(decide (k≥(m.Zones.length:Int))))=true by simpa using h,bM];cases hz:m.Zones[k.toNat]? with
   |none=>rfl
   |some z=>
    have:=G1 hz;dsimp only;rw [bP (fun x=>by have:=x.1;omega)]
  ·obtain ⟨z,z1,z2⟩:=eF (m:=m) (k:=k) (by omega) (by omega);rw [show ((decide (k<0))||(decide (k≥(m.Zones.length:Int))))=false by rw [bX];simpa using h,bN,z1];dsimp only;have hp:=B.toBearZ.parts z (lG z1)
   have key: ∀l:List Int,l.length≤1000000→J1 l m k=some (HZ (fun l=>(Nv z l).2) l):=by
     intro l hl;unfold J1
     rw [Sc l (fun l=>(Nv z l).2) (by omega) (fun i a h=>by
      have hi:=G1 h;unfold I3 Ba;rw [J8 hi,C8 h,bM,lB,z2,lB,rW hp,lB,lB]
      cases (Nv z a).2<;>rfl) (by unfold I3;rw [H9];rfl)]
   unfold Bx;by_cases q:Q8 m r=0
   ·rw [bO q,bO ⟨by omega,q⟩,key r hr];rfl
   ·rw [bP q,bP (fun x=>q x.2),key [] (by simp)];rfl
def KQ (m:Map):Nat→Int→List Int→Bool
  |c,a,[]=>(nextOf m a.toNat).isEmpty||c==0
  |c,a,b::r=>(nextOf m a.toNat).contains b&&decide (0<c)&&KQ m (c - 1) b r
theorem PB {m:Map}: ∀{r:List Int} {c:Nat} {a:Int},KQ m c a r=true→Mo m a r=true∧r.length≤c
  | [],c,a,_=>⟨rfl,wI _⟩
  |b::r,c,a,h=>by
   rw [KQ,bS,bS,bJ]at h;have:=PB h.2;rw [Mo,h.1.1,this.1];refine ⟨rfl,?_⟩;simp only [lL];omega
theorem XS {m:Map}(V:ValR m): ∀(f:Nat) (x a:Int) (c:Nat) (out:List Int),0≤x→x<16777216→0≤a→a<m.Lanes.length→m.Lanes.length≤a.toNat+f→out.length+c=8→
    ∃r,loop (Mg m) (x,a,out)=some (out++r)∧KQ m c a r=true
  |0,x,a,c,out,h0,h1,a0,a1,hf,hc=>by omega
  |f+1,x,a,c,out,h0,h1,a0,a1,hf,hc=>by
   obtain ⟨ln,e1,e2⟩:=Wi a0 a1;have hn:nextOf m a.toNat=ln.Next:=by unfold nextOf;rw [e1];rfl
   have hfew:=(V.laneOK e1).few;by_cases q:ln.Next.length=0∨c=0
   ·refine ⟨[],?_,?_⟩
    ·rw [lP];refine D3 ?_;unfold Mg;dsimp only;rw [e2,lB];rw [show ((decide ((ln.Next.length:Int)>0))&& (decide ((out.length:Int)<8)))=false by simp;omega];rfl
    ·rw [KQ,hn];rcases q with q|q
     ·rw [l8 q];rfl
     ·rw [q,beq_self_eq_true,Bool.or_true]
   ·have hm:=Ju x (show (0:Int)< (ln.Next.length:Int) by omega);have hlt:(x % (ln.Next.length:Int)).toNat<ln.Next.length:=by omega
    have hbm:=V.next e1 (List.getElem_mem hlt);have hx:0≤x / (ln.Next.length:Int)∧x / (ln.Next.length:Int)<16777216:=⟨Int.ediv_nonneg h0 (by omega),Int.lt_of_le_of_lt (Int.ediv_le_self _ h0) h1⟩;obtain ⟨r,r1,r2⟩:=XS V f (x / (ln.Next.length:Int)) ln.Next[(x % (ln.Next.length:Int)).toNat] (c - 1) (out++ [ln.Next[(x % (ln.Next.length:Int)).toNat]]) hx.1 hx.2 (by omega) (by omega) (by omega) (by simp;omega);refine ⟨ln.Next[(x % (ln.Next.length:Int)).toNat]::r,?_,?_⟩
    ·rw [lO]at r1;rw [K1 (s':=(x / (ln.Next.length:Int),ln.Next[(x % (ln.Next.length:Int)).toNat],out++ [ln.Next[(x % (ln.Next.length:Int)).toNat]]))]
     ·exact r1
     ·unfold Mg;dsimp only;rw [e2,lB];rw [show ((decide ((ln.Next.length:Int)>0))&& (decide ((out.length:Int)<8)))=true by simp;omega,bM,lB,lB];unfold Yo TW;rw [bP (by omega),lB,wQ h0,wP h0]
      have e3:C4 ln.Next (x % (ln.Next.length:Int))=some ln.Next[(x % (ln.Next.length:Int)).toNat]:=by
        unfold C4;rw [bO hm.1,lH hlt]
      rw [e3,lB,bP (by omega),lB,Ia (by simp;omega),lB];have:IntKind.wrap .i64 (x / (ln.Next.length:Int))=x / (ln.Next.length:Int):=VB (by omega);rw [this]
    ·rw [KQ,hn,r2,Bool.and_true,bS];exact ⟨List.contains_iff_mem.2 (List.getElem_mem hlt),by simp;omega⟩
theorem UQ {m:Map}(B:BearM m)(V:ValR m)(n:Int): ∃a t,Kr m n=some (a::t)∧a∈V1 m∧KQ m 7 a t=true:=by
  unfold Kr;obtain ⟨s,s1,_⟩:=SA V 1 0 (by decide) (by have:=V.pos;omega) (by decide);have h12:=V.lanes;have ol:(V1 m).length≤12:=wL (Xx _ _ _) h12;have op:0< (V1 m).length:=List.length_pos_iff.2 (fun e=>by rw [e]at s1;cases s1);rw [XQ B,lB,show (((V1 m).length:Int)==0)=false by simp only [beq_eq_false_iff_ne];omega,bN,Vj (by decide) (by decide),lB];have c:=Ju n (show (0:Int)<1048576 by decide);generalize n % 1048576=x at c;unfold Yo TW;rw [bP (by omega),lB,wQ c.1,wP c.1];have hm:=Ju x (show (0:Int)< ((V1 m).length:Int) by omega);have hlt:(x % ((V1 m).length:Int)).toNat< (V1 m).length:=by omega
  have e3:C4 (V1 m) (x % ((V1 m).length:Int))=some (V1 m)[(x % ((V1 m).length:Int)).toNat]:=by
    unfold C4;rw [bO hm.1,lH hlt]
  have hx:0≤x / ((V1 m).length:Int)∧x / ((V1 m).length:Int)<16777216:=⟨Int.ediv_nonneg c.1 (by omega),by have:=Int.ediv_le_self ((V1 m).length:Int) c.1;omega⟩;rw [e3,lB,bP (by omega),lB];have:IntKind.wrap .i64 (x / ((V1 m).length:Int))=x / ((V1 m).length:Int):=VB (by omega);rw [this];have hmem:=List.getElem_mem hlt;have ho:=mem_origins.1 hmem;obtain ⟨r,r1,r2⟩:=XS V m.Lanes.length (x / ((V1 m).length:Int)) (V1 m)[(x % ((V1 m).length:Int)).toNat] 7 [(V1 m)[(x % ((V1 m).length:Int)).toNat]] hx.1 hx.2 ho.1 ho.2.1 (by omega) rfl;exact ⟨_,r,by rw [r1];rfl,hmem,r2⟩
theorem nW {m:Map}(V:ValR m){a:Int}{t:List Int}(ha:a∈V1 m)(h:KQ m 7 a t=true):RouteOK m a t:=by
  have ho:=mem_origins.1 ha;have hf:=PB h;exact ⟨V,hf.2,⟨ho.1,ho.2.1⟩,ho.2.2,hf.1⟩
end Go.Abs.World
namespace Go.Abs
open Go
structure LtOK {α:Type}(lt:α→α→Bool):Prop where
  asym: ∀a b,lt a b=true→lt b a=false
  trans: ∀a b c,lt b a=false→lt c b=false→lt c a=false
def Srt {α:Type}(lt:α→α→Bool)(l:List α):Prop:=l.Pairwise fun a b=>lt b a=false
section
variable {α:Type}
theorem Ya (U V:List α)(x y:α)(n:Int)(h:n=(U.length:Int)):Mm (U++x::V) n y=U++y::V:=by
  subst h;simp [Mm]
theorem Pg (U V:List α)(x:α)(n:Int)(h:n=(U.length:Int)):C4 (U++x::V) n=some x:=by
  subst h;simp [C4]
theorem cD {Q:List α}(h:Q≠ []): ∃Q' q,Q=Q'++ [q]:=⟨Q.dropLast,Q.getLast h,(List.dropLast_concat_getLast h).symm⟩
variable {lt:α→α→Bool}
theorem Srt.ins (L:LtOK lt){Q1 Q2:List α}{x:α}(h:Srt lt (Q1++Q2))(h1: ∀q∈Q1,lt x q=false)(h2: ∀q∈Q2,lt x q=true):Srt lt (Q1++x::Q2):=by
  unfold Srt at h ⊢;rw [List.pairwise_append]at h ⊢;refine ⟨h.1,bB.2 ⟨fun b hb=>L.asym _ _ (h2 b hb),h.2.1⟩,fun a ha b hb=> ?_⟩;rcases lU.1 hb with rfl|hb
  ·exact h1 a ha
  ·exact h.2.2 a ha b hb
theorem LtOK.irr (L:LtOK lt)(a:α):lt a a=false:=by
  cases h:lt a a with
  |false=>rfl
  |true=>rw [L.asym a a h]at h;cases h
theorem Srt.get (L:LtOK lt){l:List α}(h:Srt lt l){i j:Nat}(hij:i≤j)(hj:j<l.length):lt l[j] l[i]=false:=by
  rcases Nat.lt_or_eq_of_le hij with h1|h1
  ·exact bC.1 h i j (by omega) hj h1
  ·subst h1;exact L.irr _
theorem sA {F:Int×Int→Option (Stp (Int×Int) Int)}(Q:Nat→Bool)(lo hi:Nat)(hle:lo≤hi)
    (hF: ∀x y:Nat,lo≤x→x<y→y≤hi→F ((x:Int),(y:Int))=some (if Q ((x+y) / 2)then .go ((((x+y) / 2+1:Nat):Int),(y:Int))else .go ((x:Int),(((x+y) / 2:Nat):Int))))
    (hstop: ∀x y:Nat,¬x<y→F ((x:Int),(y:Int))=some (.out (x:Int)))
    (mono: ∀c c',lo≤c→c≤c'→c'<hi→Q c'=true→Q c=true):
    ∃s:Nat,loop F ((lo:Int),(hi:Int))=some (s:Int)∧lo≤s∧s≤hi∧(∀c,lo≤c→c<s→Q c=true)∧∀c,s≤c→c<hi→Q c=false:=by
  have key: ∀(k x y:Nat),y - x≤k→lo≤x→x≤y→y≤hi→(∀c,lo≤c→c<x→Q c=true)→(∀c,y≤c→c<hi→Q c=false)→
   ∃s:Nat,loop F ((x:Int),(y:Int))=some (s:Int)∧lo≤s∧s≤hi∧(∀c,lo≤c→c<s→Q c=true)∧∀c,s≤c→c<hi→Q c=false:=by
    intro k
    induction k with
    |zero=>
     intro x y hk h1 h2 h3 h4 h5;obtain rfl:x=y:=by omega
     exact ⟨x,D3 (hstop x x (by omega)),h1,h3,h4,h5⟩
    |succ k ih=>
     intro x y hk h1 h2 h3 h4 h5;by_cases hxy:x<y
     ·have hf:=hF x y h1 hxy h3;cases hq:Q ((x+y) / 2)with
      |true=>
       rw [hq,bO rfl]at hf;obtain ⟨s,g1,g2⟩:=ih ((x+y) / 2+1) y (by omega) (by omega) (by omega) h3 (fun c hc1 hc2=>mono c ((x+y) / 2) hc1 (by omega) (by omega) hq) h5;exact ⟨s,by rw [K1 hf];exact g1,g2⟩
      |false=>
       rw [hq,bP (by simp)]at hf
       obtain ⟨s,g1,g2⟩:=ih x ((x+y) / 2) (by omega) h1 (by omega) (by omega) h4 (fun c hc1 hc2=>by
         cases hc:Q c with
         |false=>rfl
         |true=>rw [mono ((x+y) / 2) c (by omega) hc1 hc2 hc]at hq;cases hq)
       exact ⟨s,by rw [K1 hf];exact g1,g2⟩
     ·obtain rfl:x=y:=by omega
      exact ⟨x,D3 (hstop x x (by omega)),h1,h3,h4,h5⟩
  exact key (hi - lo) lo hi (wH _) (wH _) hle (wH _) (fun c h1 h2=>absurd h2 (by omega)) (fun c h1 h2=>absurd h2 (by omega))
theorem JL (L:LtOK lt){F:Int×List α→Option (Stp (Int×List α) (List α))}{P T:List α}(N:Nat)
    (hstop: ∀xs,F ((P.length:Int),xs)=some (.out xs))
    (hF: ∀(U V:List α) (q x:α),P.length≤U.length→(U++q::x::V).length=N→F (((U.length:Int)+1),U++q::x::V)=some (if lt x q then .go ((U.length:Int),U++x::q::V)else .out (U++q::x::V))) (x:α):
    ∀(n:Nat) (Q1 Q2:List α),Q1.length=n→Srt lt (Q1++Q2)→(∀q∈Q2,lt x q=true)→(P++Q1++x::Q2++T).length=N→
     ∃Q,loop F (((P.length+Q1.length:Nat):Int),P++Q1++x::Q2++T)=some (P++Q++T)∧Q.Perm (x::(Q1++Q2))∧Srt lt Q:=by
  intro n
  induction n with
  |zero=>
   intro Q1 Q2 hn hs hg hN;obtain rfl:=List.length_eq_zero_iff.1 hn;refine ⟨x::Q2,?_,by simp,?_⟩
   ·rw [D3 (by rw [lN,Nat.add_zero];exact hstop _)];simp
   ·exact hs.ins L (by simp) hg
  |succ n ih=>
   intro Q1 Q2 hn hs hg hN;obtain ⟨Q',q,rfl⟩:=cD (Q:=Q1) (by rintro rfl;simp at hn);rw [lM,List.length_singleton]at hn;have e1:P++ (Q'++ [q])++x::Q2++T=(P++Q')++q::x::(Q2++T):=by simp
   have e2:((P.length+ (Q'++ [q]).length:Nat):Int)=((P++Q').length:Int)+1:=by simp;omega
   have hF1:=hF (P++Q') (Q2++T) q x (by simp) (by rw [← e1];exact hN);by_cases hl:lt x q=true
   ·rw [bO hl]at hF1
    obtain ⟨Q,g1,g2,g3⟩:=ih Q' (q::Q2) (by omega) (by simpa using hs) (fun y hy=>by
      rcases lU.1 hy with rfl|hy
      ·exact hl
      ·exact hg y hy) (by rw [← hN];simp)
    refine ⟨Q,?_,g2.trans (by simp),g3⟩;rw [e1,e2,K1 hF1,← g1];congr 1;simp
   ·rw [bP hl]at hF1;have hl':lt x q=false:=by simpa using hl
    refine ⟨Q'++ [q]++x::Q2,?_,?_,hs.ins L (fun y hy=> ?_) hg⟩
    ·rw [e1,e2,D3 hF1];simp
    ·have:=List.perm_middle (a:=x) (l₁:=Q'++ [q]) (l₂:=Q2);exact this
    ·rcases lT.1 hy with h|h
     ·have hq:lt q y=false:=by
        unfold Srt at hs;rw [lO,List.pairwise_append]at hs;exact hs.2.2 y h q (by simp)
      exact L.trans y q x hq hl'
     ·rw [bG.1 h];exact hl'
theorem SC {F:Int×List α→Option (Stp (Int×List α) (List α))}{P S:List α}(N:Nat)(b:Nat)
    (hend: ∀xs (i:Nat),b≤i→F ((i:Int),xs)=some (.out xs))
    (hF: ∀(Q R:List α) (x:α),(P++Q++x::R++S).length=N→P.length+Q.length<b→Srt lt Q→∃Q',F (((P.length+Q.length:Nat):Int),P++Q++x::R++S)=some (.go (((P.length+Q.length+1:Nat):Int),P++Q'++R++S))∧Q'.Perm (x::Q)∧Srt lt Q'):
    ∀(R Q:List α),(P++Q++R++S).length=N→P.length+Q.length+R.length=b→Srt lt Q→∃Q',loop F (((P.length+Q.length:Nat):Int),P++Q++R++S)=some (P++Q'++S)∧Q'.Perm (Q++R)∧Srt lt Q':=by
  intro R
  induction R with
  |nil=>
   intro Q hN hb hs;refine ⟨Q,?_,by simp,hs⟩;rw [D3 (hend _ _ (by simpa using Nat.le_of_eq hb.symm))];simp
  |cons x R ih=>
   intro Q hN hb hs;rw [lL]at hb;obtain ⟨Q',g1,g2,g3⟩:=hF Q R x hN (by omega) hs;have hl:Q'.length=Q.length+1:=by rw [g2.length_eq];simp
   obtain ⟨Q2,k1,k2,k3⟩:=ih Q' (by rw [← hN];simp [hl];omega) (by omega) g3;refine ⟨Q2,?_,k2.trans ((g2.append_right R).trans ?_),k3⟩
   ·rw [K1 g1,← k1,hl];congr 1
   ·exact (List.perm_middle (a:=x) (l₁:=Q) (l₂:=R)).symm
end
end Go.Abs
namespace Go.Abs.World
open Go Go.Abs
def eH (a b:Int):Bool:=decide (a<b)
theorem vW:LtOK eH:=⟨fun a b h=>by simp only [eH,bJ,wA]at h ⊢;omega,fun a b c h1 h2=>by simp only [eH,wA]at h1 h2 ⊢;omega⟩
theorem sB (a b:Int):Lg a b=some (eH a b):=by
  have h: ∀x:Int,Y5 x=some false:=fun x=>by unfold Y5;simp
  unfold Lg;rw [h,lB];rfl
theorem gS {α:Type}(U V:List α)(q x:α):U++q::x::V=(U++ [q])++x::V:=by simp
theorem cE (P T:List Int)(x:Int)(Q:List Int)(hs:Srt eH Q)(hN:(P++Q++x::T).length≤1000000):
    ∃Q',loop (K2 (P.length:Int)) (((P.length+Q.length:Nat):Int),P++Q++x::T)=some (P++Q'++T)∧Q'.Perm (x::Q)∧Srt eH Q':=by
  have hstop: ∀xs,K2 (P.length:Int) ((P.length:Int),xs)=some (.out xs):=fun xs=>by
    unfold K2;simp only [show decide ((P.length:Int)>(P.length:Int))=false from bI (by omega),bN,bR,lB]
  have hF: ∀(U V:List Int) (q y:Int),P.length≤U.length→(U++q::y::V).length=(P++Q++x::T).length→K2 (P.length:Int) (((U.length:Int)+1),U++q::y::V)=some (if eH y q then .go ((U.length:Int),U++y::q::V)else .out (U++q::y::V)):=fun U V q y hP hl=>by
    unfold K2;have hb:U.length+2≤1000000:=by rw [← hl]at hN;simp at hN;omega
    have e1:E5 ((U.length:Int)+1 - 1)=(U.length:Int):=by rw [H4 (by omega)];omega
    have g1:C4 (U++q::y::V) ((U.length:Int)+1)=some y:=by rw [gS];exact Pg _ _ _ _ (by simp)
    have g2:C4 (U++q::y::V) (U.length:Int)=some q:=Pg _ _ _ _ rfl;have s1:Mm (U++q::y::V) ((U.length:Int)+1) q=U++q::q::V:=by rw [gS,Ya _ _ _ _ _ (by simp)];simp
    have g3:C4 (U++q::q::V) (U.length:Int)=some q:=Pg _ _ _ _ rfl;have s2:Mm (U++q::q::V) (U.length:Int) y=U++y::q::V:=Ya _ _ _ _ _ rfl;simp only [show decide (((U.length:Int)+1)>(P.length:Int))=true from bH (by omega),bM,bQ,e1,g1,g2,s1,g3,s2,lB,sB];cases eH y q<;>rfl
  obtain ⟨Q',h1,h2,h3⟩:=JL vW (P:=P) (T:=T) (P++Q++x::T).length hstop hF x Q.length Q [] rfl (by simpa using hs) (by simp) (by simp);refine ⟨Q',?_,by simpa using h2,h3⟩;rw [← h1];congr 1;simp
theorem sC (P A S:List Int)(hN:(P++A++S).length≤1000000):
    ∃A',K0 (P++A++S) (P.length:Int) ((P.length+A.length:Nat):Int)=some (P++A'++S)∧A'.Perm A∧Srt eH A':=by
  unfold K0
  have hend: ∀(xs:List Int) (i:Nat),P.length+A.length≤i→H5 (P.length:Int) ((P.length+A.length:Nat):Int) ((i:Int),xs)=some (.out xs):=fun xs i hi=>by
    unfold H5;rw [show decide ((i:Int)< ((P.length+A.length:Nat):Int))=false from bI (by omega)];rfl
  simp only [lM]at hN;have hw:E5 ((P.length:Int)+1)=((P.length+1:Nat):Int):=by rw [H4 (by omega)];omega
  cases A with
  |nil=>
   refine ⟨[],?_,by simp,List.Pairwise.nil⟩;rw [hw,D3 (hend _ _ (by simp))]
  |cons a A=>
   have hF: ∀(Q R:List Int) (x:Int),(P++Q++x::R++S).length=(P++a::A++S).length→P.length+Q.length<P.length+ (a::A).length→Srt eH Q→∃Q',H5 (P.length:Int) ((P.length+ (a::A).length:Nat):Int) (((P.length+Q.length:Nat):Int),P++Q++x::R++S)=some (.go (((P.length+Q.length+1:Nat):Int),P++Q'++R++S))∧Q'.Perm (x::Q)∧Srt eH Q':=fun Q R x hl hb hs=>by
     obtain ⟨Q',k1,k2,k3⟩:=cE P (R++S) x Q hs (by simp only [lM,lL]at hl hN ⊢;omega);refine ⟨Q',?_,k2,k3⟩;unfold H5;have e1:P++Q++x::R++S=P++Q++x::(R++S):=by simp
     rw [show decide (((P.length+Q.length:Nat):Int)< ((P.length+ (a::A).length:Nat):Int))=true from bH (by omega),bM];simp only [e1,k1,lB];rw [H4 (by simp only [lL]at hN hb;omega)];simp
   obtain ⟨A',h1,h2,h3⟩:=SC (lt:=eH) (P:=P) (S:=S) (P++a::A++S).length (P.length+ (a::A).length) hend hF A [a] (by simp) (by simp;omega) (List.pairwise_singleton _ _);refine ⟨A',?_,h2,h3⟩;rw [hw,← h1];congr 1;simp
theorem eI (n:Nat)(h:n≤12): ∃v,Kp (IntKind.wrap .u64 (n:Int))=some v:=by
  have: ∀n:Fin 13,(Kp (IntKind.wrap .u64 ((n.val:Nat):Int))).isSome=true:=by decide+kernel
  exact Option.isSome_iff_exists.1 (this ⟨n,by omega⟩)
theorem sD (xs:List Int)(h:xs.length≤12): ∃ys,P8 xs=some ys∧ys.Perm xs∧Srt eH ys:=by
  obtain ⟨v,hv⟩:=eI _ h;obtain ⟨ys,h1,h2,h3⟩:=sC [] xs [] (by simp;omega);refine ⟨ys,?_,h2,h3⟩;unfold P8 P4;rw [hv,lB,D3 (t:=ys)]
  ·rfl
  ·unfold N8;simp only [lN,wK,lQ,lP]at h1;have e:E5 ((xs.length:Int) - 0)≤12:=by rw [H4 (by omega)];omega
   rw [show decide (E5 ((xs.length:Int) - 0)≤12)=true from bH e,bM];have h1':K0 xs 0 (xs.length:Int)=some ys:=h1;rw [h1',lB]
theorem nX:P9=some ():=by
  obtain ⟨v,hv⟩:=eI 0 (by omega);unfold P9 P5;rw [show IntKind.wrap .u64 0=IntKind.wrap .u64 ((0:Nat):Int) from rfl,hv,lB,D3 (t:=())]
  ·rfl
  ·unfold N9 M5;rw [D3 (t:=())]
   ·rfl
   ·rfl
theorem GA: ∀(l:List Int) (x:Int),x∈Fs l↔x∈l
  | [],_=> .rfl
  | [_],_=> .rfl
  |a::b::r,x=>by
   have ih:=GA (b::r) x;rw [Fs];by_cases e:a=b
   ·subst e;rw [show (a==a)=true by simp,bM,ih];simp
   ·rw [show (a==b)=false by simp [e],bN,lU,ih,lU (a:=x) (b:=a)]
theorem EQ: ∀(l:List Int),l.Pairwise (· ≤ ·)→(Fs l).Pairwise (· < ·)
  | [],_=>List.Pairwise.nil
  | [_],_=>List.pairwise_singleton _ _
  |a::b::r,h=>by
   obtain ⟨h1,h2⟩:=bB.1 h;have ih:=EQ (b::r) h2;rw [Fs];by_cases e:a=b
   ·rw [show (a==b)=true by simp [e],bM];exact ih
   ·rw [show (a==b)=false by simp [e],bN];refine bB.2 ⟨fun x hx=> ?_,ih⟩;have hx':=(GA _ _).1 hx;have hb:=h1 b (by simp);rcases lU.1 hx' with rfl|hx'
    ·omega
    ·have:=(bB.1 h2).1 x hx';omega
structure SigOK (s:Signal):Prop where
  pos:0<s.Phases.length
  many:s.Phases.length≤6
  off:0≤s.Offset∧s.Offset≤1099511627776
  ticks: ∀p∈s.Phases,1≤p.Ticks∧p.Ticks≤10000
  green: ∀p∈s.Phases,p.Green.length≤1000000
theorem ValR.sig {m:Map}(B:BearM m)(V:ValR m){i:Nat}{s:Signal}(h:m.Signals[i]? =some s):SigOK s:=by
  have:=firstE_none.1 V.signalE i s h;unfold World.signalE at this;split at this
  ·cases this
  split at this
  ·cases this
  split at this
  ·cases this
  split at this
  ·cases this
  rename_i h1 h2 h3 h4;refine ⟨by omega,by omega,?_,fun p hp=> ?_,(B.toBearS.phases s (lG h)).2⟩
  ·have:Yf s.Offset 0 1099511627776=true:=by simpa using h3
   simpa [Yf] using this
  ·have:Yf p.Ticks 1 10000=true:=by
     cases q:Yf p.Ticks 1 10000 with
     |true=>rfl
     |false=>exact absurd (lZ.2 ⟨p,hp,by rw [q];rfl⟩) h4
   simpa [Yf] using this
def Pp:List Phase→Int
  | []=>0
  |p::r=>p.Ticks+Pp r
def KR (lane:Int):Int→List Phase→Bool
  |_,[]=>false
  |at_,p::r=>if p.Ticks≤at_ then KR lane (at_ - p.Ticks) r else p.Green.contains lane
def PC (s:Signal)(lane tick:Int):Bool:=KR lane ((s.Offset+tick) % Pp s.Phases) s.Phases
theorem eJ: ∀{l:List Phase},(∀p∈l,1≤p.Ticks∧p.Ticks≤10000)→(l.length:Int)≤Pp l∧Pp l≤10000*l.length
  | [],_=>by simp [Pp]
  |p::r,h=>by
   have:=eJ (l:=r) fun q hq=>h q (List.mem_cons_of_mem _ hq);have:=h p (by simp);simp only [Pp,lL];omega
theorem SigOK.sum {s:Signal}(S:SigOK s):1≤Pp s.Phases∧Pp s.Phases≤60000:=by
  have:=eJ S.ticks;have:=S.pos;have:=S.many;omega
theorem zE (s:Signal)(S:SigOK s): ∀(r:List Phase) (i:Nat) (a:Int),s.Phases.drop i=r→i≤s.Phases.length→0≤a→a+10000*r.length≤1000000→loop (Cy s) (a,(i:Int))=some (a+Pp r):=by
  intro r
  induction r with
  |nil=>
   intro i a hi hil h0 h1;have:=P3 hi;obtain rfl:i=s.Phases.length:=by omega
   refine D3 ?_;unfold Cy;rw [H9];simp [Pp]
  |cons p r ih=>
   intro i a hi hil h0 h1;have hlt:=O3 hi;have hp:=Y3 hi;have hb:=S.ticks p (lG hp);simp only [lL]at h1
   have hs:Cy s (a,(i:Int))=some (.go (a+p.Ticks,((i+1:Nat):Int))):=by
     unfold Cy;dsimp only;rw [J8 hlt,C8 hp,bM,lB,H4 (by omega),G4 hlt (by have:=S.many;omega)]
   rw [K1 hs,ih (i+1) _ (L4 hi) (by omega) (by omega) (by omega),Pp];congr 1;omega
theorem zF (s:Signal)(S:SigOK s)(lane:Int): ∀(r:List Phase) (i:Nat) (a:Int),s.Phases.drop i=r→i≤s.Phases.length→0≤a→a≤1000000→thenS (loop (V8 s lane) (a,(i:Int))) (fun _=>some false) (fun r=>some r)=some (KR lane a r):=by
  intro r
  induction r with
  |nil=>
   intro i a hi hil h0 h1;have:=P3 hi;obtain rfl:i=s.Phases.length:=by omega
   rw [D3 (t:= .inl ())]
   ·rfl
   ·unfold V8;rw [H9];rfl
  |cons p r ih=>
   intro i a hi hil h0 h1;have hlt:=O3 hi;have hp:=Y3 hi;have hb:=S.ticks p (lG hp);by_cases hc:p.Ticks≤a
   ·have hs:V8 s lane (a,(i:Int))=some (.go (a - p.Ticks,((i+1:Nat):Int))):=by
      unfold V8;dsimp only;rw [J8 hlt,C8 hp,bM,lB,show decide (a≥p.Ticks)=true from bH hc,bM,H4 (by omega),G4 hlt (by have:=S.many;omega)]
    rw [K1 hs,ih (i+1) _ (L4 hi) (by omega) (by omega) (by omega),KR,bO hc]
   ·have hs:V8 s lane (a,(i:Int))=some (.out (.inr (p.Green.contains lane))):=by
      unfold V8;dsimp only;rw [J8 hlt,C8 hp,bM,lB,show decide (a≥p.Ticks)=false from bI (by omega),bN,CK _ (S.green p (lG hp)),lB]
    rw [D3 hs,KR,bP hc];rfl
theorem tW {s:Signal}(S:SigOK s){tick:Int}(h:0≤tick):(E5 (s.Offset.tmod (Pp s.Phases)+tick.tmod (Pp s.Phases))).tmod (Pp s.Phases)=(s.Offset+tick) % Pp s.Phases:=by
  obtain ⟨h1,h2⟩:=S.sum;have ho:=S.off.1;rw [wQ ho,wQ h];have a1:=wR s.Offset (b:=Pp s.Phases) (by omega);have a2:=wR tick (b:=Pp s.Phases) (by omega);have a3:=wS s.Offset (b:=Pp s.Phases) (by omega);have a4:=wS tick (b:=Pp s.Phases) (by omega);rw [H4 (by omega),wQ (by omega),← Int.add_emod]
theorem SD {s:Signal}(S:SigOK s)(lane:Int){tick:Int}(h:0≤tick):Gh s lane tick=some (PC s lane tick):=by
  obtain ⟨h1,h2⟩:=S.sum;unfold Gh
  have e1:loop (Cy s) (0,0)=some (Pp s.Phases):=by
    have:=zE s S s.Phases 0 0 rfl (by omega) (by omega) (by have:=S.many;omega);rw [Int.zero_add]at this;exact this
  have hne:Pp s.Phases≠0:=by omega
  rw [e1,lB];unfold Yo;rw [bP hne,lB,bP hne,lB,bP hne,lB,tW S h];refine zF s S lane s.Phases 0 _ rfl (by omega) (wR _ hne) ?_;have:=wS (s.Offset+tick) (b:=Pp s.Phases) (by omega);omega
noncomputable def JM (m:Map)(g lane tick:Int):Bool:=(((decide (tick≥0))&& (decide (g≥0)))&& (decide (g< (m.Signals.length:Int))))&&XP m lane&&PC (m.Signals.getD g.toNat default) lane tick
theorem nY {m:Map}(B:BearM m)(g lane tick:Int):Jd m g lane tick=some (JM m g lane tick):=by
  unfold Jd JM;rw [CJ B];cases hc:(((decide (tick≥0))&& (decide (g≥0)))&& (decide (g< (m.Signals.length:Int))))
  ·rfl
  ·cases hi:XP m lane
   ·rfl
   ·simp only [bS,bJ]at hc;obtain ⟨⟨c1,c2⟩,c3⟩:=hc;have hl:g.toNat<m.Signals.length:=by omega
    have hget:m.Signals[g.toNat]? =some (m.Signals.getD g.toNat default):=by rw [List.getD,lH hl];rfl
    have hg:C4 m.Signals g=some (m.Signals.getD g.toNat default):=by unfold C4;rw [bO c2,hget]
    have S:=((isM_true.1 hi).2.2).sig B hget;simp only [bM,lB,bQ,hg,SD S lane c1]
theorem Qs {high:Int}: ∀{l:List Int} {low:Int},Dh high low l=true→l.Pairwise (· < ·)
  | [],_,_=>List.Pairwise.nil
  |n::r,low,h=>by
   simp only [Dh,bS]at h;refine bB.2 ⟨fun x hx=> ?_,Qs h.2⟩;have:=(Mh h.2 x hx).1;omega
def XT (m:Map)(z:Zone):Signal:=m.Signals.getD (z.Signal_ - 1).toNat default
def Vk (m:Map)(lane tick:Int)(z:Zone)(p:Part):Option Int:=if p.Lane_==lane&& !PC (XT m z) lane tick then some p.From else none
def Qt (m:Map)(lane tick:Int)(z:Zone):List Int:=if z.Signal_==0 then []else z.Parts.filterMap (Vk m lane tick z)
def PD (m:Map)(lane tick:Int):List Int:=m.Zones.flatMap (Qt m lane tick)
theorem XU (m:Map)(lane tick:Int)(z:Zone): ∀l:List Part,(l.map (·.Lane_)).Pairwise (· < ·)→(l.filterMap (Vk m lane tick z)).length≤1
  | [],_=>by simp
  |p::r,h=>by
   obtain ⟨h1,h2⟩:=bB.1 h;rw [List.filterMap_cons];by_cases e:p.Lane_=lane
   ·have:r.filterMap (Vk m lane tick z)= []:=by
      rw [List.filterMap_eq_nil_iff];intro q hq;have:p.Lane_<q.Lane_:=h1 q.Lane_ (List.mem_map_of_mem hq);unfold Vk;rw [show (q.Lane_==lane)=false by simp;omega];rfl
    rw [this];cases Vk m lane tick z p<;>simp
   ·have:Vk m lane tick z p=none:=by unfold Vk;rw [show (p.Lane_==lane)=false by simp [e]];rfl
    rw [this];exact XU m lane tick z r h2
theorem ER {m:Map}{z:Zone}(Z:ZoneOK m z)(lane tick:Int):(Qt m lane tick z).length≤1:=by
  unfold Qt;split
  ·simp
  ·exact XU m lane tick z _ (Qs Z.rise)
theorem XV {m:Map}(lane tick:Int): ∀l:List Zone,(∀z∈l,ZoneOK m z)→(l.flatMap (Qt m lane tick)).length≤l.length
  | [],_=>by simp
  |z::r,h=>by
   rw [bE,lM,lL];have:=ER (h z (by simp)) lane tick;have:=XV lane tick r fun y hy=>h y (List.mem_cons_of_mem _ hy);omega
theorem vX {m:Map}(B:BearM m)(V:ValR m)(lane:Int){tick:Int}(ht:0≤tick)(z:Zone)(Z:ZoneOK m z)(hz:z.Signal_≠0): ∀(r:List Part) (i:Nat) (out:List Int),z.Parts.drop i=r→i≤z.Parts.length→out.length+r.length≤1000→
    loop (Bb m lane tick z) (out,(i:Int))=some (out++r.filterMap (Vk m lane tick z)):=by
  intro r
  induction r with
  |nil=>
   intro i out hi hil hl;have:=P3 hi;obtain rfl:i=z.Parts.length:=by omega
   refine D3 ?_;unfold Bb;rw [H9];simp
  |cons p r ih=>
   intro i out hi hil hl;have hlt:=O3 hi;have hp:=Y3 hi;have hsz:=Z.six;simp only [lL]at hl;have hw:E5 (z.Signal_ - 1)=z.Signal_ - 1:=H4 (by have:=Z.sig;have:=V.signals;omega);have hk:(z.Signal_ - 1).toNat<m.Signals.length:=by have:=Z.sig;omega
   have hget:m.Signals[(z.Signal_ - 1).toNat]? =some (XT m z):=by rw [XT,List.getD,lH hk];rfl
   have hg:C4 m.Signals (z.Signal_ - 1)=some (XT m z):=by unfold C4;rw [bO (by have:=Z.sig;omega),hget]
   have hs:Bb m lane tick z (out,(i:Int))=some (.go ((match Vk m lane tick z p with|some b=>out++ [b]|none=>out),((i+1:Nat):Int))):=by
     unfold Bb Vk;dsimp only;rw [J8 hlt,C8 hp,bM,lB,hw,hg,G4 hlt (by omega)];cases p.Lane_==lane
     ·rfl
     ·simp only [bM,lB,bQ];rw [SD (V.sig B hget) lane ht,lB];cases PC (XT m z) lane tick
      ·simp only [bV,bM,if_true];rw [Ia (by simp;omega),lB]
      ·rfl
   rw [K1 hs,List.filterMap_cons];cases Vk m lane tick z p with
   |none=>exact ih (i+1) out (L4 hi) (by omega) (by omega)
   |some b=>
    dsimp only;rw [ih (i+1) (out++ [b]) (L4 hi) (by omega) (by simp;omega)];simp
theorem vY {m:Map}(B:BearM m)(V:ValR m)(lane:Int){tick:Int}(ht:0≤tick): ∀(r:List Zone) (i:Nat) (out:List Int),m.Zones.drop i=r→i≤m.Zones.length→out.length+r.length≤100→
    loop (Bc m lane tick) (out,(i:Int))=some (out++r.flatMap (Qt m lane tick)):=by
  intro r
  induction r with
  |nil=>
   intro i out hi hil hl;have:=P3 hi;obtain rfl:i=m.Zones.length:=by omega
   refine D3 ?_;unfold Bc;rw [H9];simp
  |cons z r ih=>
   intro i out hi hil hl;have hlt:=O3 hi;have hz:=Y3 hi;have Z:=V.zoneOK (lG hz);simp only [lL]at hl;have hn:=V.zones
   have hs:Bc m lane tick (out,(i:Int))=some (.go (out++Qt m lane tick z,((i+1:Nat):Int))):=by
     unfold Bc Qt;dsimp only;rw [J8 hlt,C8 hz,bM,lB,G4 hlt (by omega)];by_cases e:z.Signal_=0
     ·rw [show (z.Signal_==0)=true by simp [e],bM,bO rfl];simp
     ·rw [show (z.Signal_==0)=false by simp [e],bN,bP (by simp)];have:=vX B V lane ht z Z e z.Parts 0 out rfl (by omega) (by have:=Z.six;omega);have this':loop (Bb m lane tick z) (out,0)=_:=this;rw [this',lB]
   have:=ER Z lane tick;rw [K1 hs,ih (i+1) _ (L4 hi) (by omega) (by rw [lM];omega),bE,lO]
theorem sE {m:Map}(B:BearM m)(V:ValR m)(lane:Int){tick:Int}(ht:0≤tick): ∃R,Ns m lane tick=some R∧R.Pairwise (· < ·)∧(∀x,x∈R↔x∈PD m lane tick)∧R.length≤1000:=by
  have hlen:(PD m lane tick).length≤12:=wL (XV lane tick m.Zones fun z hz=>V.zoneOK hz) V.zones
  have h1:loop (Bc m lane tick) ([],0)=some (PD m lane tick):=by
    have:=vY B V lane ht m.Zones 0 [] rfl (by omega) (by simp;have:=V.zones;omega);rw [lQ]at this;exact this
  unfold Ns;rw [h1,lB];cases q:PD m lane tick with
  |nil=>exact ⟨[],by rw [nX];rfl,List.Pairwise.nil,fun x=> .rfl,by simp⟩
  |cons a l=>
   rw [q]at hlen;obtain ⟨ys,g1,g2,g3⟩:=sD (a::l) hlen;have hys:ys≠ []:=by rintro rfl;exact absurd g2.length_eq (by simp)
   have hc:HG ys=some (Fs ys):=by cases ys with|nil=>exact absurd rfl hys|cons=>rfl
   refine ⟨Fs ys,by rw [show List.isEmpty (a::l)=false from rfl,bN,g1,lB,hc];rfl,EQ _ (g3.imp fun {a b} h=> ?_),fun x=>(GA _ _).trans g2.mem_iff,?_⟩
   ·simp only [eH,wA]at h;omega
   ·have: ∀l:List Int,(Fs l).length≤l.length:=by
      intro l
      induction l with
      |nil=>simp [Fs]
      |cons a l ih=>
       cases l with
       |nil=>simp [Fs]
       |cons b r=>
        rw [Fs];cases a==b
        ·simp only [bN,lL]at ih ⊢;omega
        ·simp only [bM,lL]at ih ⊢;omega
    have h2:=this ys;rw [g2.length_eq]at h2;omega
theorem vZ {m:Map}(B:BearM m)(lane tick:Int): ∃R,Ii m lane tick=some R∧R.Pairwise (· < ·)∧(∀x,x∈R↔ (0≤tick∧XP m lane=true∧x∈PD m lane tick))∧R.length≤1000:=by
  unfold Ii;rw [CJ B];by_cases ht:tick<0
  ·exact ⟨[],by rw [show decide (tick<0)=true from bH ht];rfl,List.Pairwise.nil,fun x=>⟨fun h=>absurd h (by simp),fun h=>by omega⟩,by simp⟩
  ·rw [show decide (tick<0)=false from bI ht];cases hi:XP m lane
   ·exact ⟨[],rfl,List.Pairwise.nil,fun x=>⟨fun h=>absurd h (by simp),fun h=>by cases h.2.1⟩,by simp⟩
   ·obtain ⟨R,g1,g2,g3,g4⟩:=sE B (isM_true.1 hi).2.2 lane (tick:=tick) (by omega);exact ⟨R,by simp only [bV,bM,lB,bU,Bool.or_false,bN,g1],g2,fun x=>(g3 x).trans ⟨fun h=>⟨by omega,rfl,h⟩,fun h=>h.2.2⟩,g4⟩
end Go.Abs.World
namespace Go.Abs
open Go
section
variable {α β σ τ:Type}
def Wj (g:Nat→α→List β):Nat→List α→List β
  |_,[]=> []
  |i,a::r=>g i a++Wj g (i+1) r
theorem SE (g:Nat→α→List β)(C:Nat): ∀(l:List α) (i:Nat),(∀(j:Nat) a,l[j]? =some a→(g (i+j) a).length≤C)→(Wj g i l).length≤l.length*C
  | [],_,_=>by simp [Wj]
  |a::r,i,h=>by
   have h1:=h 0 a rfl;have h2:=SE g C r (i+1) (fun j b hb=>by have:=h (j+1) b (by simpa using hb);rwa [show i+1+j=i+ (j+1) by omega]);rw [Wj,lM,lL,Nat.succ_mul];rw [Nat.add_zero]at h1;omega
end
end Go.Abs
namespace Go.Abs.World
open Go Go.Abs
theorem nZ {z:Zone}(hl:z.Parts.length≤1000000)(k:Int):Yx z k=some (Nv z k):=by
  have key: ∀(r:List Part) (i:Nat),z.Parts.drop i=r→i≤z.Parts.length→thenS (loop (Hm z k) (i:Int)) (fun _=>some ((⟨0,0,0,0⟩:Part),false)) (fun r=>some r)=some (match r.find? (fun p=>p.Lane_==k)with|some p=>(p,true)|none=>(⟨0,0,0,0⟩,false)):=by
    intro r
    induction r with
    |nil=>
     intro i hi hil;have:=P3 hi;obtain rfl:i=z.Parts.length:=by omega
     rw [D3 (t:= .inl ()) (by unfold Hm;rw [H9];rfl)];rfl
    |cons p r ih=>
     intro i hi hil;have hlt:=O3 hi;have hp:=Y3 hi;rw [List.find?_cons];cases q:p.Lane_==k
     ·rw [K1 (s':=((i+1:Nat):Int)) (by unfold Hm;rw [J8 hlt,C8 hp,bM,lB,q,G4 hlt (by omega)];rfl)];exact ih (i+1) (L4 hi) (by omega)
     ·rw [D3 (t:= .inr (p,true)) (by unfold Hm;rw [J8 hlt,C8 hp,bM,lB,q,bM,lB])];rfl
  exact key z.Parts 0 rfl (by omega)
theorem yA (s:Signal)(S:SigOK s): ∀(r:List Phase) (i:Nat) (a:Int),s.Phases.drop i=r→i≤s.Phases.length→0≤a→a+10000*r.length≤1000000→loop (Da s) (a,(i:Int))=some (a+Pp r):=by
  intro r
  induction r with
  |nil=>
   intro i a hi hil h0 h1;have:=P3 hi;obtain rfl:i=s.Phases.length:=by omega
   refine D3 ?_;unfold Da;rw [H9];simp [Pp]
  |cons p r ih=>
   intro i a hi hil h0 h1;have hlt:=O3 hi;have hp:=Y3 hi;have hb:=S.ticks p (lG hp);simp only [lL]at h1
   have hs:Da s (a,(i:Int))=some (.go (a+p.Ticks,((i+1:Nat):Int))):=by
     unfold Da;dsimp only;rw [J8 hlt,C8 hp,bM,lB,H4 (by omega),G4 hlt (by have:=S.many;omega)]
   rw [K1 hs,ih (i+1) _ (L4 hi) (by omega) (by omega) (by omega),Pp];congr 1;omega
theorem yB (s:Signal)(S:SigOK s)(lane:Int): ∀(r:List Phase) (i:Nat) (a:Int),s.Phases.drop i=r→i≤s.Phases.length→0≤a→a≤1000000→thenS (loop (Bg s lane) (a,(i:Int))) (fun _=>some false) (fun r=>some r)=some (KR lane a r):=by
  intro r
  induction r with
  |nil=>
   intro i a hi hil h0 h1;have:=P3 hi;obtain rfl:i=s.Phases.length:=by omega
   rw [D3 (t:= .inl ())]
   ·rfl
   ·unfold Bg;rw [H9];rfl
  |cons p r ih=>
   intro i a hi hil h0 h1;have hlt:=O3 hi;have hp:=Y3 hi;have hb:=S.ticks p (lG hp);by_cases hc:p.Ticks≤a
   ·have hs:Bg s lane (a,(i:Int))=some (.go (a - p.Ticks,((i+1:Nat):Int))):=by
      unfold Bg;dsimp only;rw [J8 hlt,C8 hp,bM,lB,show decide (a<p.Ticks)=false from bI (by omega),bN,lB,H4 (by omega),G4 hlt (by have:=S.many;omega)]
    rw [K1 hs,ih (i+1) _ (L4 hi) (by omega) (by omega) (by omega),KR,bO hc]
   ·have hs:Bg s lane (a,(i:Int))=some (.out (.inr (p.Green.contains lane))):=by
      unfold Bg;dsimp only;rw [J8 hlt,C8 hp,bM,lB,show decide (a<p.Ticks)=true from bH (by omega),bM,lB,aX _ (S.green p (lG hp)),lB]
    rw [D3 hs,KR,bP hc];rfl
theorem gT {s:Signal}(S:SigOK s)(lane:Int){tick:Int}(h:0≤tick):Ry s lane tick=some (PC s lane tick):=by
  obtain ⟨h1,h2⟩:=S.sum;unfold Ry
  have e1:loop (Da s) (0,0)=some (Pp s.Phases):=by
    have:=yA s S s.Phases 0 0 rfl (by omega) (by omega) (by have:=S.many;omega);rw [Int.zero_add]at this;exact this
  have hne:Pp s.Phases≠0:=by omega
  rw [e1,lB];unfold Yo;rw [bP hne,lB,bP hne,lB,bP hne,lB,tW S h];refine yB s S lane s.Phases 0 _ rfl (by omega) (wR _ hne) ?_;have:=wS (s.Offset+tick) (b:=Pp s.Phases) (by omega);omega
theorem gU {m:Map}(B:BearM m)(g lane tick:Int):Rz m g lane tick=some (JM m g lane tick):=by
  unfold Rz JM;rw [EO B,lB]
  have e:(((XP m lane&& (decide (g≥0)))&& (decide (g< (m.Signals.length:Int))))&& (decide (tick≥0)))=((((decide (tick≥0))&& (decide (g≥0)))&& (decide (g< (m.Signals.length:Int))))&&XP m lane):=by
    cases XP m lane<;>cases decide (g≥0)<;>cases decide (g< (m.Signals.length:Int))<;>cases decide (tick≥0)<;>rfl
  rw [e];cases hc:((((decide (tick≥0))&& (decide (g≥0)))&& (decide (g< (m.Signals.length:Int))))&&XP m lane)
  ·rfl
  ·simp only [bS,bJ]at hc;obtain ⟨⟨⟨c1,c2⟩,c3⟩,c4⟩:=hc;have hl:g.toNat<m.Signals.length:=by omega
   have hget:m.Signals[g.toNat]? =some (m.Signals.getD g.toNat default):=by rw [List.getD,lH hl];rfl
   have hg:C4 m.Signals g=some (m.Signals.getD g.toNat default):=by unfold C4;rw [bO c2,hget]
   have S:=((isM_true.1 c4).2.2).sig B hget;simp only [bM,lB,bQ,hg,gT S lane c1]
def IE (x y:Int):Int:=if x<y then -1 else if x>y then 1 else 0
def sF (a b:Pass):Int:=if IE a.From b.From≠0 then IE a.From b.From else IE a.Zone_ b.Zone_
def AE (a b:Pass):Bool:=decide (a.From<b.From∨a.From=b.From∧a.Zone_<b.Zone_)
theorem ltP_ok:LtOK AE:=⟨fun a b h=>by simp only [AE,bJ,wA]at h ⊢;omega,fun a b c h1 h2=>by simp only [AE,wA]at h1 h2 ⊢;omega⟩
theorem sG (a b:Pass):decide (sF a b<0)=AE a b:=by
  unfold sF AE IE;rw [decide_eq_decide];split<;>(repeat' split)<;>omega
theorem yC (x y:Int):Cd [x,y]=some (if x≠0 then x else y):=by
  have f0:Ap [x,y] 0=some (if x≠0 then .out (.inr x)else .go 1):=by
    by_cases h:x=0
    ·subst h;rfl
    ·have hb:(x !=0)=true:=by simp [h]
     unfold Ap;simp [C4,h,hb]
  have f1:Ap [x,y] 1=some (if y≠0 then .out (.inr y)else .go 2):=by
    by_cases h:y=0
    ·subst h;rfl
    ·have hb:(y !=0)=true:=by simp [h]
     unfold Ap;simp [C4,h,hb]
  have f2:Ap [x,y] 2=some (.out (.inl ())):=rfl;unfold Cd;by_cases hx:x=0
  ·by_cases hy:y=0
   ·rw [K1 (by rw [f0,bP (by simp [hx])]),K1 (by rw [f1,bP (by simp [hy])]),D3 f2];subst hx hy;rfl
   ·rw [K1 (by rw [f0,bP (by simp [hx])]),D3 (by rw [f1,bO hy]),bP (by simp [hx])];rfl
  ·rw [D3 (by rw [f0,bO hx]),bO hx];rfl
theorem Zj (a b:Int):Az a b=some (IE a b):=by
  have h: ∀x:Int,Y5 x=some false:=fun x=>by unfold Y5;simp
  unfold Az IE;rw [h,h];simp only [lB,bN,dP];split<;>(repeat' split)<;>rfl
theorem Vl (a b:Int):Aa a b=some (IE a b):=by
  have h: ∀x:Int,Ko x=some false:=fun x=>by unfold Ko;simp
  unfold Aa IE;rw [h,h];simp only [lB,bN,dP];split<;>(repeat' split)<;>rfl
theorem sH (a b:Pass):Cx a b=some (sF a b):=by
  unfold Cx sF;rw [Zj,lB,Vl,lB,yC];rfl
theorem cF (P T:List Pass)(x:Pass)(Q:List Pass)(hs:Srt AE Q)(hN:(P++Q++x::T).length≤1000000):
    ∃Q',loop (D6 (P.length:Int)) (((P.length+Q.length:Nat):Int),P++Q++x::T)=some (P++Q'++T)∧Q'.Perm (x::Q)∧Srt AE Q':=by
  have hstop: ∀xs,D6 (P.length:Int) ((P.length:Int),xs)=some (.out xs):=fun xs=>by
    unfold D6;simp only [show decide ((P.length:Int)>(P.length:Int))=false from bI (by omega),bN,bR,lB]
  have hF: ∀(U V:List Pass) (q y:Pass),P.length≤U.length→(U++q::y::V).length=(P++Q++x::T).length→D6 (P.length:Int) (((U.length:Int)+1),U++q::y::V)=some (if AE y q then .go ((U.length:Int),U++y::q::V)else .out (U++q::y::V)):=fun U V q y hP hl=>by
    unfold D6;have hb:U.length+2≤1000000:=by rw [← hl]at hN;simp at hN;omega
    have e1:E5 ((U.length:Int)+1 - 1)=(U.length:Int):=by rw [H4 (by omega)];omega
    have g1:C4 (U++q::y::V) ((U.length:Int)+1)=some y:=by rw [gS];exact Pg _ _ _ _ (by simp)
    have g2:C4 (U++q::y::V) (U.length:Int)=some q:=Pg _ _ _ _ rfl;have s1:Mm (U++q::y::V) ((U.length:Int)+1) q=U++q::q::V:=by rw [gS,Ya _ _ _ _ _ (by simp)];simp
    have g3:C4 (U++q::q::V) (U.length:Int)=some q:=Pg _ _ _ _ rfl;have s2:Mm (U++q::q::V) (U.length:Int) y=U++y::q::V:=Ya _ _ _ _ _ rfl;simp only [show decide (((U.length:Int)+1)>(P.length:Int))=true from bH (by omega),bM,bQ,e1,g1,g2,s1,g3,s2,lB,sH,sG];cases AE y q<;>rfl
  obtain ⟨Q',h1,h2,h3⟩:=JL ltP_ok (P:=P) (T:=T) (P++Q++x::T).length hstop hF x Q.length Q [] rfl (by simpa using hs) (by simp) (by simp);refine ⟨Q',?_,by simpa using h2,h3⟩;rw [← h1];congr 1;simp
theorem UR (P A S:List Pass)(hN:(P++A++S).length≤1000000):
    ∃A',E0 (P++A++S) (P.length:Int) ((P.length+A.length:Nat):Int)=some (P++A'++S)∧A'.Perm A∧Srt AE A':=by
  unfold E0
  have hend: ∀(xs:List Pass) (i:Nat),P.length+A.length≤i→E4 (P.length:Int) ((P.length+A.length:Nat):Int) ((i:Int),xs)=some (.out xs):=fun xs i hi=>by
    unfold E4;rw [show decide ((i:Int)< ((P.length+A.length:Nat):Int))=false from bI (by omega)];rfl
  simp only [lM]at hN;have hw:E5 ((P.length:Int)+1)=((P.length+1:Nat):Int):=by rw [H4 (by omega)];omega
  cases A with
  |nil=>
   refine ⟨[],?_,by simp,List.Pairwise.nil⟩;rw [hw,D3 (hend _ _ (by simp))]
  |cons a A=>
   have hF: ∀(Q R:List Pass) (x:Pass),(P++Q++x::R++S).length=(P++a::A++S).length→P.length+Q.length<P.length+ (a::A).length→Srt AE Q→∃Q',E4 (P.length:Int) ((P.length+ (a::A).length:Nat):Int) (((P.length+Q.length:Nat):Int),P++Q++x::R++S)=some (.go (((P.length+Q.length+1:Nat):Int),P++Q'++R++S))∧Q'.Perm (x::Q)∧Srt AE Q':=fun Q R x hl hb hs=>by
     obtain ⟨Q',k1,k2,k3⟩:=cF P (R++S) x Q hs (by simp only [lM,lL]at hl hN ⊢;omega);refine ⟨Q',?_,k2,k3⟩;unfold E4;have e1:P++Q++x::R++S=P++Q++x::(R++S):=by simp
     rw [show decide (((P.length+Q.length:Nat):Int)< ((P.length+ (a::A).length:Nat):Int))=true from bH (by omega),bM];simp only [e1,k1,lB];rw [H4 (by simp only [lL]at hN hb;omega)];simp
   obtain ⟨A',h1,h2,h3⟩:=SC (lt:=AE) (P:=P) (S:=S) (P++a::A++S).length (P.length+ (a::A).length) hend hF A [a] (by simp) (by simp;omega) (List.pairwise_singleton _ _);refine ⟨A',?_,h2,h3⟩;rw [hw,← h1];congr 1;simp
theorem sI (x y:Nat)(h:x+y≤4000000):E5 ((IntKind.wrap .u64 (E5 ((x:Int)+ (y:Int)))).fdiv (2^ (min (1:Int).toNat (IntKind.bits .u64))))=(((x+y) / 2:Nat):Int):=by
  rw [H4 (n:=(x:Int)+ (y:Int)) (by omega)]
  have e:IntKind.wrap .u64 ((x:Int)+ (y:Int))=(x:Int)+ (y:Int):=by
    unfold IntKind.wrap;simp only [IntKind.signed,IntKind.bits,bR,Bool.false_eq_true,if_false];omega
  rw [e,show (2:Int)^ (min (1:Int).toNat (IntKind.bits .u64))=2 from rfl,Int.fdiv_eq_ediv_of_nonneg _ (by omega),H4 (by omega)];omega
def BlkS (w:Nat)(l:List Pass):Prop:= ∀i,Srt AE ((l.drop (i*w)).take w)
theorem BlkS.cons {w:Nat}{M R:List Pass}(hM:M.length=w)(h1:Srt AE M)(h2:BlkS w R):BlkS w (M++R):=by
  intro i;cases i with
  |zero=>rw [Nat.zero_mul,List.drop_zero,List.take_append_of_le_length (by omega),List.take_of_length_le (by omega)];exact h1
  |succ i=>
   have:=h2 i;rw [wJ,Nat.one_mul,List.drop_append,List.drop_eq_nil_of_le (by omega),lQ,show i*w+w - M.length=i*w by omega];exact this
theorem BlkS.last {w:Nat}{M:List Pass}(hM:M.length≤w)(h1:Srt AE M):BlkS w M:=by
  intro i;exact h1.sublist ((List.take_sublist _ _).trans (List.drop_sublist _ _))
theorem BlkS.drop {w:Nat}{R:List Pass}(h:BlkS w R):BlkS w (R.drop w):=by
  intro i;have:=h (i+1)
  rwa [wJ,Nat.one_mul,Nat.add_comm,← List.drop_drop]at this
theorem BlkS.head {w:Nat}{R:List Pass}(h:BlkS w R):Srt AE (R.take w):=by
  have:=h 0
  rwa [Nat.zero_mul,List.drop_zero]at this
theorem yD (n:Nat)(hn:n≤100): ∀(k:Nat) (R D:List Pass),R.length≤k→D.length+R.length=n→
    ∃y R',loop (E6 (n:Int)) ((D.length:Int),((D.length+20:Nat):Int),D++R)=some y∧E0 y.2 y.1 (n:Int)=some (D++R')∧BlkS 20 R'∧R'.Perm R:=by
  intro k
  induction k with
  |zero=>
   intro R D hk hl;obtain rfl:=List.length_eq_zero_iff.1 (show R.length=0 by omega);obtain ⟨A',g1,g2,g3⟩:=UR D [] [] (by simp;omega);simp only [lP,lN,Nat.add_zero]at g1 hl ⊢;refine ⟨_,A',D3 (t:=((D.length:Int),D)) ?_,by rw [← hl];exact g1, .last (by rw [g2.length_eq];simp) g3,g2⟩;unfold E6;rw [show decide (((D.length+20:Nat):Int)≤(n:Int))=false from bI (by omega)];rfl
  |succ k ih=>
   intro R D hk hl;by_cases h20:20≤R.length
   ·have eR:=List.take_append_drop 20 R;have l1:(R.take 20).length=20:=by rw [lV];omega
    obtain ⟨A',g1,g2,g3⟩:=UR D (R.take 20) (R.drop 20) (by rw [lO,eR];simp;omega);have lA:A'.length=20:=by rw [g2.length_eq];exact l1
    rw [l1,lO,eR]at g1;obtain ⟨y,R',k1,k2,k3,k4⟩:=ih (R.drop 20) (D++A') (by rw [List.length_drop];omega) (by rw [lM,List.length_drop];omega);refine ⟨y,A'++R',?_,by rw [k2,lO], .cons lA g3 k3,?_⟩
    ·rw [← k1,show (D++A').length=D.length+20 by rw [lM,lA]];refine K1 ?_;unfold E6;simp only [show decide (((D.length+20:Nat):Int)≤(n:Int))=true from bH (by omega),bM,g1,lB];rw [H4 (n:=((D.length+20:Nat):Int)+20) (by omega)];simp
    ·exact (g2.append k4).trans (by rw [eR])
   ·obtain ⟨A',g1,g2,g3⟩:=UR D R [] (by simp;omega);simp only [lP]at g1;rw [hl]at g1;refine ⟨_,A',D3 (t:=((D.length:Int),D++R)) ?_,g1, .last (by rw [g2.length_eq];omega) g3,g2⟩;unfold E6;rw [show decide (((D.length+20:Nat):Int)≤(n:Int))=false from bI (by omega)];rfl
theorem gV (xs:List Pass)(h:xs.length≤19): ∃ys,G2 xs=some ys∧ys.Perm xs∧Srt AE ys:=by
  obtain ⟨y,R,k1,k2,k3,k4⟩:=yD xs.length (by omega) xs.length xs [] (wH _) (by simp);refine ⟨R,?_,k4,?_⟩
  ·unfold G2 K4;have k1':loop (E6 (xs.length:Int)) (0,20,xs)=some y:=k1;have k2':E0 y.2 y.1 (xs.length:Int)=some R:=k2
   have g1':loop (H7 (xs.length:Int) R) 20=some R:=by
     refine D3 ?_;unfold H7;rw [show decide ((20:Int)< (xs.length:Int))=false from bI (by omega)];rfl
   simp only [k1',lB,k2',g1']
  ·have:=k3.head
   rwa [List.take_of_length_le (by rw [k4.length_eq];omega)]at this
theorem GB:G3=some ():=by
  have i0:F1 0 0=some ():=by
    unfold F1;exact D3 rfl
  have h1:loop (I9 0) (0,20)=some 0:=D3 rfl;have h2:loop (I8 0) 20=some ():=D3 rfl;unfold G3 K5;simp only [h1,lB,i0,h2]
theorem Zk (m:Map): ∀(r:List Int) (s:Int),Fd m s r=s+Fd m 0 r
  | [],s=>by simp [Fd]
  |a::r,s=>by rw [Fd,Fd,Zk m r (s+R8 m a),Zk m r (0+R8 m a)];omega
theorem Nx (m:Map): ∀(r:List Int) (s:Int) (i:Nat),i<r.length→(Q9 m s r)[i]? =some (s+Fd m 0 (r.take i))
  | [],_,_,h=>absurd h (by simp)
  |a::r,s,0,_=>by simp [Q9,Fd]
  |a::r,s,i+1,h=>by
   rw [Q9,List.getElem?_cons_succ,Nx m r _ i (by simpa using h),List.take_succ_cons,Fd,Zk m _ (0+R8 m a)];congr 1;omega
noncomputable def Qu (m:Map)(r:List Int)(i:Nat):Int:=Fd m 0 (r.take i)
theorem CL (m:Map)(r:List Int):Qu m r 0=0:=rfl
theorem KS (m:Map)(x:Int): ∀(l:List Int) (s:Int),Fd m s (l++ [x])=Fd m s l+R8 m x
  | [],s=>rfl
  |a::l,s=>by rw [List.cons_append,Fd,Fd,KS m x l]
theorem Vm {m:Map}{r:List Int}{i:Nat}{a:Int}(h:r[i]? =some a):Qu m r (i+1)=Qu m r i+R8 m a:=by
  unfold Qu;rw [List.take_add_one,h];exact KS m a _ _
theorem sJ (m:Map)(r:List Int):Qu m r r.length=Fd m 0 r:=by rw [Qu,List.take_length]
theorem RouteOK.len {m:Map}{a:Int}{t:List Int}(R:RouteOK m a t){i:Nat}{x:Int}(h:(a::t)[i]? =some x):1000≤R8 m x∧R8 m x≤16777216:=by
  have:=R.mem (lG h);exact R.val.long this.1 this.2
theorem RouteOK.mono {m:Map}{a:Int}{t:List Int}(R:RouteOK m a t): ∀(j i:Nat),i+j≤(a::t).length→Qu m (a::t) i+1000*j≤Qu m (a::t) (i+j)∧Qu m (a::t) (i+j)≤Qu m (a::t) i+16777216*j
  |0,i,_=>by simp
  |j+1,i,h=>by
   have:=R.mono j i (by omega);have e:(a::t)[i+j]? =some (a::t)[i+j]:=lH (by omega);have hl:=R.len e;rw [← Nat.add_assoc,Vm e];omega
theorem RouteOK.lt {m:Map}{a:Int}{t:List Int}(R:RouteOK m a t){i j:Nat}(hij:i<j)(hj:j≤(a::t).length):Qu m (a::t) i+1000≤Qu m (a::t) j:=by
  have:=(R.mono (j - i) i (by omega)).1;rw [show i+ (j - i)=j by omega]at this;omega
theorem RouteOK.bd {m:Map}{a:Int}{t:List Int}(R:RouteOK m a t){i:Nat}(hi:i≤(a::t).length):0≤Qu m (a::t) i∧Qu m (a::t) i≤134217728:=by
  have:=R.mono i 0 (by omega);have h7:=R.most;simp only [lL]at hi;rw [wK,CL]at this;omega
theorem RouteOK.follow {m:Map}{a:Int}{t:List Int}(R:RouteOK m a t):Bx m (a::t)=⟨m,a::t,Q9 m 0 (a::t),Qu m (a::t) (a::t).length⟩:=by
  unfold Bx;rw [bO (chkRoute_zero.2 ⟨a,t,rfl,R⟩),sJ]
theorem RouteOK.starts {m:Map}{a:Int}{t:List Int}{i:Nat}(hi:i< (a::t).length):C4 (Q9 m 0 (a::t)) (i:Int)=some (Qu m (a::t) i):=by
  rw [C8 (Nx m _ 0 i hi),Int.zero_add];rfl
def Pt (lane s:Int)(zi:Nat):Nat→List Part→List Pass
  |_,[]=> []
  |k,p::r=>(if p.Lane_==lane then [⟨(zi:Int),(k:Int),s+p.From,s+p.To⟩]else [])++Pt lane s zi (k+1) r
def Te (lane s:Int):Nat→List Zone→List Pass
  |_,[]=> []
  |zi,z::r=>Pt lane s zi 0 z.Parts++Te lane s (zi+1) r
noncomputable def Ml (m:Map):Int→List Int→List Pass
  |_,[]=> []
  |s,a::r=>Te a s 0 m.Zones++Ml m (s+R8 m a) r
theorem DK (lane s:Int)(zi:Nat): ∀(l:List Part) (k:Nat),(l.map (·.Lane_)).Pairwise (· < ·)→(Pt lane s zi k l).length≤1
  | [],_,_=>by simp [Pt]
  |p::r,k,h=>by
   obtain ⟨h1,h2⟩:=bB.1 h
   have nil: ∀(r:List Part) (k:Nat),(∀q∈r,q.Lane_≠lane)→Pt lane s zi k r= []:=by
     intro r
     induction r with
     |nil=>intro k _;rfl
     |cons q r ih=>
      intro k hq;rw [Pt,ih (k+1) (fun y hy=>hq y (List.mem_cons_of_mem _ hy)),show (q.Lane_==lane)=false by simp [hq q (by simp)]];rfl
   rw [Pt];by_cases e:p.Lane_=lane
   ·rw [nil r (k+1) (fun q hq=>by
    have:p.Lane_<q.Lane_:=h1 q.Lane_ (List.mem_map_of_mem hq)
    omega)]
    simp [e]
   ·rw [show (p.Lane_==lane)=false by simp [e]];exact DK lane s zi r (k+1) h2
theorem DL {m:Map}(lane s:Int): ∀(l:List Zone) (zi:Nat),(∀z∈l,ZoneOK m z)→(Te lane s zi l).length≤l.length
  | [],_,_=>by simp [Te]
  |z::r,zi,h=>by
   have:=DK lane s zi z.Parts 0 (Qs (h z (by simp)).rise);have:=DL lane s r (zi+1) fun y hy=>h y (List.mem_cons_of_mem _ hy);rw [Te,lM,lL];omega
theorem SF (lane s:Int)(zi:Nat): ∀(l:List Part) (k:Nat) (x:Pass),x∈Pt lane s zi k l→∃(j:Nat) (p:Part),l[j]? =some p∧p.Lane_=lane∧x=⟨(zi:Int),((k+j:Nat):Int),s+p.From,s+p.To⟩
  | [],_,x,h=>by simp [Pt]at h
  |p::r,k,x,h=>by
   rw [Pt,lT]at h;rcases h with h|h
   ·by_cases e:p.Lane_=lane
    ·rw [bO (by simp [e]),bG]at h;exact ⟨0,p,rfl,e,h⟩
    ·rw [bP (by simp [e])]at h;simp at h
   ·obtain ⟨j,q,h1,h2,h3⟩:=SF lane s zi r (k+1) x h;exact ⟨j+1,q,by simpa using h1,h2,by rw [h3];congr 1;omega⟩
theorem SG (lane s:Int): ∀(l:List Zone) (zi:Nat) (x:Pass),x∈Te lane s zi l→∃(j:Nat) (z:Zone) (k:Nat) (p:Part),l[j]? =some z∧z.Parts[k]? =some p∧p.Lane_=lane∧x=⟨((zi+j:Nat):Int),(k:Int),s+p.From,s+p.To⟩
  | [],_,x,h=>by simp [Te]at h
  |z::r,zi,x,h=>by
   rw [Te,lT]at h;rcases h with h|h
   ·obtain ⟨k,p,h1,h2,h3⟩:=SF lane s zi z.Parts 0 x h;exact ⟨0,z,k,p,rfl,h1,h2,by rw [h3,wK];rfl⟩
   ·obtain ⟨j,y,k,p,h0,h1,h2,h3⟩:=SG lane s r (zi+1) x h;exact ⟨j+1,y,k,p,by simpa using h0,h1,h2,by rw [h3];congr 1;omega⟩
theorem DM (m:Map): ∀(r:List Int) (s:Int) (x:Pass),x∈Ml m s r→∃(i:Nat) (lane:Int) (j:Nat) (z:Zone) (k:Nat) (p:Part),r[i]? =some lane∧m.Zones[j]? =some z∧z.Parts[k]? =some p∧p.Lane_=lane∧x=⟨(j:Int),(k:Int),s+Fd m 0 (r.take i)+p.From,s+Fd m 0 (r.take i)+p.To⟩
  | [],_,x,h=>by simp [Ml]at h
  |a::r,s,x,h=>by
   rw [Ml,lT]at h;rcases h with h|h
   ·obtain ⟨j,z,k,p,h1,h2,h3,h4⟩:=SG a s m.Zones 0 x h;exact ⟨0,a,j,z,k,p,rfl,h1,h2,h3,by rw [h4];simp [Fd]⟩
   ·obtain ⟨i,lane,j,z,k,p,h0,h1,h2,h3,h4⟩:=DM m r _ x h;refine ⟨i+1,lane,j,z,k,p,by simpa using h0,h1,h2,h3,?_⟩;rw [h4,List.take_succ_cons,Fd,Zk m _ (0+R8 m a)];congr 1<;>omega
section
variable {m:Map}{a:Int}{t:List Int}
theorem sK (B:BearM m)(R:RouteOK m a t){i:Nat}{lane:Int}(hi:i< (a::t).length)(zi:Nat){z:Zone}(hz:m.Zones[zi]? =some z)(o1 o2:List Pass):
    ∀(r:List Part) (k:Nat) (out:List Pass),z.Parts.drop k=r→k≤z.Parts.length→out.length+r.length≤1000→
     loop (Bp (Bx m (a::t)) (o1,(i:Int)) lane (o2,(zi:Int)) z) (out,(k:Int))=some (out++Pt lane (Qu m (a::t) i) zi k r):=by
  have Z:=R.val.zoneOK (lG hz);have h6:=Z.six;intro r
  induction r with
  |nil=>
   intro k out hk hkl hl;have:=P3 hk;obtain rfl:k=z.Parts.length:=by omega
   refine D3 ?_;unfold Bp;rw [H9];simp [Pt]
  |cons p r ih=>
   intro k out hk hkl hl;have hlt:=O3 hk;have hp:=Y3 hk;have hpm:=lG hp;have hpt:=Z.part p hpm;have hln:=Mh Z.rise p.Lane_ (List.mem_map_of_mem hpm);have hll:=R.val.long hln.1 hln.2;have hb:=R.bd (Nat.le_of_lt hi);simp only [lL]at hl
   have hs:Bp (Bx m (a::t)) (o1,(i:Int)) lane (o2,(zi:Int)) z (out,(k:Int))=some (.go (out++ (if p.Lane_==lane then [⟨(zi:Int),(k:Int),Qu m (a::t) i+p.From,Qu m (a::t) i+p.To⟩]else []),((k+1:Nat):Int))):=by
     unfold Bp;dsimp only;rw [J8 hlt,C8 hp,bM,lB,G4 hlt (by omega)];cases p.Lane_==lane
     ·simp
     ·rw [R.follow];dsimp only;rw [bM,RouteOK.starts hi,lB,lB,H4 (by omega),H4 (by omega),Ia (by simp;omega)];rfl
   rw [K1 hs,ih (k+1) _ (L4 hk) (by omega) (by rw [lM];split<;>simp<;>omega),Pt,lO]
theorem sL (B:BearM m)(R:RouteOK m a t){i:Nat}{lane:Int}(hi:i< (a::t).length)(o1:List Pass):
    ∀(r:List Zone) (zi:Nat) (out:List Pass),m.Zones.drop zi=r→zi≤m.Zones.length→out.length+r.length≤500→
     loop (V7 m (Bx m (a::t)) (o1,(i:Int)) lane) (out,(zi:Int))=some (out++Te lane (Qu m (a::t) i) zi r):=by
  intro r
  induction r with
  |nil=>
   intro zi out hk hkl hl;have:=P3 hk;obtain rfl:zi=m.Zones.length:=by omega
   refine D3 ?_;unfold V7;rw [H9];simp [Te]
  |cons z r ih=>
   intro zi out hk hkl hl;have hlt:=O3 hk;have hz:=Y3 hk;have Z:=R.val.zoneOK (lG hz);have h6:=Z.six;have hnz:=R.val.zones;simp only [lL]at hl;have h1:=DK lane (Qu m (a::t) i) zi z.Parts 0 (Qs Z.rise);have h3:loop (Bp (Bx m (a::t)) (o1,(i:Int)) lane (out,(zi:Int)) z) (out,0)=_:=sK B R hi zi hz o1 out z.Parts 0 out rfl (by omega) (by omega)
   have hs:V7 m (Bx m (a::t)) (o1,(i:Int)) lane (out,(zi:Int))=some (.go (out++Pt lane (Qu m (a::t) i) zi 0 z.Parts,((zi+1:Nat):Int))):=by
     unfold V7;dsimp only;rw [J8 hlt,C8 hz,bM,lB,h3,lB,G4 hlt (by omega)]
   rw [K1 hs,ih (zi+1) _ (L4 hk) (by omega) (by rw [lM];omega),Te,lO]
theorem sM (B:BearM m)(R:RouteOK m a t):
    ∀(r:List Int) (i:Nat) (out:List Pass),(a::t).drop i=r→i≤(a::t).length→out.length+12*r.length≤200→
     loop (P7 m (Bx m (a::t))) (out,(i:Int))=some (out++Ml m (Qu m (a::t) i) r):=by
  have hl:(Bx m (a::t)).lanes=a::t:=by rw [R.follow]
  intro r
  induction r with
  |nil=>
   intro i out hk hkl hle;have:=P3 hk;obtain rfl:i=(a::t).length:=by omega
   refine D3 ?_;unfold P7;dsimp only;rw [hl,H9];simp [Ml]
  |cons x r ih=>
   intro i out hk hkl hle;have hlt:=O3 hk;have hx:=Y3 hk;have hm7:=R.most;have hnz:=R.val.zones;simp only [lL]at hle hlt;have h2:loop (V7 m (Bx m (a::t)) (out,(i:Int)) x) (out,0)=_:=sL B R (lane:=x) (O3 hk) out m.Zones 0 out rfl (by omega) (by omega)
   have hs:P7 m (Bx m (a::t)) (out,(i:Int))=some (.go (out++Te x (Qu m (a::t) i) 0 m.Zones,((i+1:Nat):Int))):=by
     unfold P7;dsimp only;rw [hl,J8 (O3 hk),C8 hx,bM,lB,h2,lB,G4 (O3 hk) (by simp only [lL];omega)]
   have:=DL (m:=m) x (Qu m (a::t) i) m.Zones 0 fun z hz=>R.val.zoneOK hz;rw [K1 hs,ih (i+1) _ (L4 hk) (by simp only [lL];omega) (by rw [lM];omega),Vm hx,Ml,lO]
structure BearK (m:Map):Prop extends BearM m where
  zones2:m.Zones.length≤2
theorem PE {m:Map}(V:ValR m): ∀(r:List Int) (s:Int),(Ml m s r).length≤m.Zones.length*r.length
  | [],s=>by simp [Ml]
  |a::r,s=>by
   have h1:=DL (m:=m) a s m.Zones 0 fun z hz=>V.zoneOK hz;have h2:=PE V r (s+R8 m a);rw [Ml,lM,lL,Nat.mul_add,Nat.mul_one];omega
theorem SH (B:BearK m)(R:RouteOK m a t): ∃ps,X1 m (a::t)=some ps∧ps.Perm (Ml m 0 (a::t))∧Srt AE ps∧ps.length≤16:=by
  have hm7:=R.most
  have hlen:(Ml m 0 (a::t)).length≤16:=by
    have:=PE R.val (a::t) 0;have h2:m.Zones.length* (a::t).length≤2*8:=wM B.zones2 (by simp only [lL];omega);omega
  have h1:loop (P7 m (Bx m (a::t))) ([],0)=some (Ml m 0 (a::t)):=by
    have:=sM B.toBearM R (a::t) 0 [] rfl (by omega) (by simp;omega);rw [lQ,CL]at this;exact this
  unfold X1;rw [Tz B.toBearM _ (by simp;omega),lB,h1,lB];cases q:Ml m 0 (a::t)with
  |nil=>exact ⟨[],by rw [GB];rfl, .refl _,List.Pairwise.nil,by simp⟩
  |cons x l=>
   rw [q]at hlen;obtain ⟨ys,g1,g2,g3⟩:=gV (x::l) (by omega);exact ⟨ys,by rw [show List.isEmpty (x::l)=false from rfl,bN,g1];rfl,g2,g3,by rw [g2.length_eq];exact hlen⟩
end
theorem XW {m:Map}(B:BearM m)(V:ValR m)(l:List Int)(hl:l.length≤1000000): ∀(r:List Int) (i:Nat) (a:Int),l.drop (i+1)=r→l[i]? =some a→0≤a→a<m.Lanes.length→thenS (loop (Z3 m l) ((i+1:Nat):Int)) (fun _=>some 0) (fun r=>some r)=some (if Mo m a r=true then 0 else 13):=by
  intro r
  induction r with
  |nil=>
   intro i a hi ha h0 h1;have h2:=P3 hi;have h3:=(lI.1 ha).1;have h4:i+1=l.length:=by omega
   rw [D3 (t:= .inl ())]
   ·rfl
   ·unfold Z3;rw [show decide (((i+1:Nat):Int)< (l.length:Int))=false from bI (by omega)];rfl
  |cons b r ih=>
   intro i a hi ha h0 h1;have hlt:=O3 hi;have hb:=Y3 hi;obtain ⟨ln,e1,e2⟩:=Wi h0 h1;have hw:E5 (((i+1:Nat):Int) - 1)=(i:Int):=by rw [H4 (by omega)];omega
   have hs:Z3 m l ((i+1:Nat):Int)=some (if ln.Next.contains b=true then .go (((i+1+1:Nat):Int))else .out (.inr 13)):=by
     unfold Z3;rw [J8 hlt,bM,hw,C8 ha,lB,e2,lB,C8 hb,lB,aX _ (B.toBear.pts _ (lG e1)).2,lB,G4 hlt (by omega)];cases ln.Next.contains b<;>rfl
   have hn:nextOf m a.toNat=ln.Next:=by unfold nextOf;rw [e1];rfl
   rw [Mo,hn];cases q:ln.Next.contains b
   ·rw [q]at hs;rw [D3 hs];rfl
   ·rw [q]at hs;have hbm:=V.next e1 (List.contains_iff_mem.1 q);rw [K1 hs,ih (i+1) b (L4 hi) hb (by omega) (by omega),bQ]
theorem Ph {m:Map}(B:BearM m)(r:List Int)(hr:r.length≤1000000):Ak m r=some (Q8 m r):=by
  unfold Ak Q8;rw [Vg B,lB];by_cases q:Xy m=0
  ·have V:=chkR_zero.1 q;rw [bP (by simpa using q),show (Xy m !=0)=false by simpa using q,bN];cases r with
   |nil=>rfl
   |cons a t=>
    dsimp only;simp only [lL]at hr ⊢;by_cases h8:7<t.length
    ·rw [bO (.inl h8),show ((((t.length+1:Nat):Int)==0)||(decide (((t.length+1:Nat):Int)>8)))=true by simp;omega];rfl
    ·rw [show ((((t.length+1:Nat):Int)==0)||(decide (((t.length+1:Nat):Int)>8)))=false by simp;omega];rw [show C4 (a::t) 0=some a from rfl];simp only [bV,bM,lB,bW];by_cases h0:a<0
     ·rw [bO (.inr (.inl h0)),bH h0];rfl
     ·rw [bI h0];simp only [bV,bM,lB,bW];by_cases h1:(m.Lanes.length:Int)≤a
      ·rw [bO (.inr (.inr (.inl h1))),show decide (a≥(m.Lanes.length:Int))=true from bH h1];rfl
      ·rw [show decide (a≥(m.Lanes.length:Int))=false from bI (by omega)];simp only [bV,bM,bW];rw [lB,PA B,lB];by_cases hb:Di m a= []
       ·rw [hb,show decide ((([]:List Int).length:Int)>0)=false from rfl,bN];have:=XW B V (a::t) (by simpa using hr) t 0 a rfl rfl (by omega) (by omega);rw [show ((0+1:Nat):Int)=1 from rfl]at this;rw [this];by_cases hc:Mo m a t=true
        ·rw [bO hc,bP (by rw [hc];simp;omega)]
        ·rw [bP hc,bO (.inr (.inr (.inr (.inr (by simpa using hc)))))]
       ·rw [bO (.inr (.inr (.inr (.inl hb)))),show decide (((Di m a).length:Int)>0)=true from bH (by have:=List.length_pos_iff.2 hb;omega)];rfl
  ·rw [bO q,show (Xy m !=0)=true by simpa using q];rfl
theorem SI {m:Map}(B:BearM m){a:Int}{t:List Int}(R:RouteOK m a t):Me m (a::t)=some (Q9 m 0 (a::t),Qu m (a::t) (a::t).length):=by
  have hm7:=R.most
  have key: ∀(l:List Int) (i:Nat) (st:List Int),(a::t).drop i=l→i≤(a::t).length→st.length=i→loop (Do m (a::t)) (st,Qu m (a::t) i,(i:Int))=some (st++Q9 m (Qu m (a::t) i) l,Qu m (a::t) (a::t).length):=by
    intro l
    induction l with
    |nil=>
     intro i st hi hil _;have:=P3 hi;obtain rfl:i=(a::t).length:=by omega
     refine D3 ?_;unfold Do;dsimp only;rw [H9,Q9,lP];rfl
    |cons x l ih=>
     intro i st hi hil h2;have hlt:=O3 hi;have hx:=Y3 hi;have hm:=R.mem (lG hx);have hl:=R.len hx;have hb:=R.bd (Nat.le_of_lt hlt);simp only [lL]at hlt;rw [K1 (s':=(st++ [Qu m (a::t) i],Qu m (a::t) (i+1),((i+1:Nat):Int)))]
     ·rw [ih (i+1) _ (L4 hi) (by simp;omega) (by simp [h2]),Q9,Vm hx,lO];rfl
     ·unfold Do;dsimp only;rw [J8 (by simpa using hlt),Ia (by simp;omega),bM,lB,C8 hx,lB,AD B hm.1 hm.2,lB,G4 hlt (by omega),H4 (by omega),Vm hx]
  have:=key (a::t) 0 [] rfl (by omega) rfl;rw [CL]at this;have this':loop (Do m (a::t)) ([],0,0)=_:=this;unfold Me;rw [this',lB,lQ]
noncomputable def StartsM (m:Map)(r:List Int):List Int:=(Bx m r).starts
noncomputable def LongM (m:Map)(r:List Int):Int:=(Bx m r).length
theorem JN {m:Map}(B:BearM m)(r:List Int)(hr:r.length≤1000000):Cn m r=some (StartsM m r):=by
  unfold Cn StartsM;rw [Tz B r hr];rfl
theorem eK {m:Map}(B:BearM m)(r:List Int)(hr:r.length≤1000000):W8 m r=some (LongM m r):=by
  unfold W8 LongM;rw [Tz B r hr];rfl
theorem Vn {m:Map}{r:List Int}(q:Q8 m r≠0):Bx m r=⟨⟨0,[],[],[],[]⟩,[],[],0⟩:=by unfold Bx;rw [bP q]
theorem Zl {m:Map}(B:BearM m)(r:List Int)(hr:r.length≤1000000):Jq m r=some (StartsM m r):=by
  unfold Jq;rw [Ph B r hr,lB];by_cases q:Q8 m r=0
  ·obtain ⟨a,t,rfl,R⟩:=chkRoute_zero.1 q;rw [q,show ((0:Int) !=0)=false from rfl,bN,SI B R,lB,StartsM,R.follow]
  ·rw [show (Q8 m r !=0)=true by simpa using q,bM,StartsM,Vn q]
theorem PF {m:Map}(B:BearM m)(r:List Int)(hr:r.length≤1000000):Bf m r=some (LongM m r):=by
  unfold Bf;rw [Ph B r hr,lB];by_cases q:Q8 m r=0
  ·obtain ⟨a,t,rfl,R⟩:=chkRoute_zero.1 q;rw [q,show ((0:Int) !=0)=false from rfl,bN,SI B R,lB,LongM,R.follow]
  ·rw [show (Q8 m r !=0)=true by simpa using q,bM,LongM,Vn q]
theorem JO {m:Map}(B:BearM m)(r:List Int)(hr:r.length≤1000000)(k:Int):Ls m r k=some (Ft m r k):=by
  unfold Ls Ft;rw [Ph B r hr,lB];by_cases h:k<0∨(m.Zones.length:Int)≤k
  ·have e:(((Q8 m r !=0)||(decide (k<0)))||(decide (k≥(m.Zones.length:Int))))=true:=by
     rcases h with h|h
     ·rw [bH h];simp
     ·rw [show decide (k≥(m.Zones.length:Int))=true from bH h];simp
   rw [e,bM];cases hz:m.Zones[k.toNat]? with
   |none=>rfl
   |some z=>
    have:=G1 hz;dsimp only;rw [bP (fun x=>by have:=x.1;omega)]
  ·obtain ⟨z,z1,z2⟩:=eF (m:=m) (k:=k) (by omega) (by omega);rw [show decide (k<0)=false from bI (by omega),show decide (k≥(m.Zones.length:Int))=false from bI (by omega),Bool.or_false,Bool.or_false,z1];dsimp only;have hp:=B.toBearZ.parts z (lG z1);by_cases q:Q8 m r=0
   ·rw [bO ⟨by omega,q⟩,q,show ((0:Int) !=0)=false from rfl,bN]
    exact Sc r (fun l=>(Nv z l).2) (by omega) (fun i a h=>by
      have hi:=G1 h;unfold Lr;rw [J8 hi,z2,bM,lB,C8 h,lB,nZ hp,lB]
      cases (Nv z a).2<;>rfl) (by unfold Lr;rw [H9];rfl)
   ·rw [bP (fun x=>q x.2),show (Q8 m r !=0)=true by simpa using q];rfl
end Go.Abs.World
