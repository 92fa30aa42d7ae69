/-
  Plain facts on the functions: what they compute, and that the law holds of it.
-/
import Derived.Test.YtgjdiioennhoeaaGreatFns5
set_option maxRecDepth 100000
set_option synthInstance.maxHeartbeats 0
set_option synthInstance.maxSize 100000
set_option linter.unusedVariables false
namespace Go.Abs.World
open Go Go.Abs
instance (a)(b)(c)(d):Le (@T3 U0 a b c d) (T3 a b c d):=by unfold T3;infer_instance
instance:Le (@Rc U0) (Rc):=by unfold Rc;infer_instance
instance (a):Le (@Lz U0 a) (Lz a):=by unfold Lz;infer_instance
instance (a):Le (@Bk U0 a) (Bk a):=by unfold Bk;infer_instance
instance curve_root_le (a):Le (@Er U0 a) (Er a):=by unfold Er;infer_instance
instance (a)(b):Le (@X0 U0 a b) (X0 a b):=by unfold X0;infer_instance
instance (a):Le (@Cc U0 a) (Cc a):=by unfold Cc;infer_instance
instance (a)(b)(c):Le (@Ar U0 a b c) (Ar a b c):=by unfold Ar;infer_instance
instance (a)(b):Le (@P5 U0 a b) (P5 a b):=by unfold P5;infer_instance
instance (a):Le (@T5 U0 a) (T5 a):=by unfold T5;infer_instance
instance (a)(b):Le (@N9 U0 a b) (N9 a b):=by unfold N9;infer_instance
instance (a):Le (@T1 U0 a) (T1 a):=by unfold T1;infer_instance
instance (a):Le (@F5 U0 a) (F5 a):=by unfold F5;infer_instance
instance (a):Le (@E2 U0 a) (E2 a):=by unfold E2;infer_instance
instance (a)(b):Le (@R2 U0 a b) (R2 a b):=by unfold R2;infer_instance
instance (a)(b)(c):Le (@D8 U0 a b c) (D8 a b c):=by unfold D8;infer_instance
instance (a)(b):Le (@F3 U0 a b) (F3 a b):=by unfold F3;infer_instance
instance (a)(b):Le (@D9 U0 a b) (D9 a b):=by unfold D9;infer_instance
instance (a)(b):Le (@N4 U0 a b) (N4 a b):=by unfold N4;infer_instance
instance (a):Le (@Q9 U0 a) (Q9 a):=by unfold Q9;infer_instance
instance piecesGo_le (pts:List Spot): ∀(n i:Nat) (s:Int),Le (@Hj U0 pts n i s) (Hj pts n i s)
  |0,i,s=>Le.refl _
  |n+1,i,s=>by
   unfold Hj
   have:=fun i s=>piecesGo_le pts n i s
   infer_instance -- curve_root_le
instance (a):Le (@Oq U0 a) (Oq a):=by unfold Oq;infer_instance
instance (a):Le (@Ed U0 a) (Ed a):=by unfold Ed;infer_instance
instance curve_Length_le (a):Le (@Bv U0 a) (Bv a):=by unfold Bv;infer_instance
instance (a)(b):Le (@Bn U0 a b) (Bn a b):=by unfold Bn;infer_instance
instance (a)(b)(c):Le (@P6 U0 a b c) (P6 a b c):=by unfold P6;infer_instance
instance (a)(b):Le (@P7 U0 a b) (P7 a b):=by unfold P7;infer_instance
instance (a):Le (@T6 U0 a) (T6 a):=by unfold T6;infer_instance
instance (a)(b):Le (@P8 U0 a b) (P8 a b):=by unfold P8;infer_instance
instance (a):Le (@T7 U0 a) (T7 a):=by unfold T7;infer_instance
instance (a)(b):Le (@R3 U0 a b) (R3 a b):=by unfold R3;infer_instance
instance (a)(b):Le (@N2 U0 a b) (N2 a b):=by unfold N2;infer_instance
instance roads_Check_le (a):Le (@Az U0 a) (Az a):=by unfold Az;infer_instance
instance (a)(b):Le (@S7 U0 a b) (S7 a b):=by unfold S7;infer_instance
instance (a)(b):Le (@M2 U0 a b) (M2 a b):=by unfold M2;infer_instance
instance (a)(b)(c):Le (@Z8 U0 a b c) (Z8 a b c):=by unfold Z8;infer_instance
instance (a)(b):Le (@Ef U0 a b) (Ef a b):=by unfold Ef;infer_instance
instance (a)(b)(c):Le (@O7 U0 a b c) (O7 a b c):=by unfold O7;infer_instance
instance (a)(b):Le (@V4 U0 a b) (V4 a b):=by unfold V4;infer_instance
instance (a)(b)(c):Le (@V1 U0 a b c) (V1 a b c):=by unfold V1;infer_instance
instance (a)(b):Le (@X6 U0 a b) (X6 a b):=by unfold X6;infer_instance
instance (a)(b):Le (@R5 U0 a b) (R5 a b):=by unfold R5;infer_instance
instance (a)(b):Le (@Au U0 a b) (Au a b):=by unfold Au;infer_instance
instance (a)(b):Le (@Gr U0 a b) (Gr a b):=by unfold Gr;infer_instance
instance (a)(b):Le (@Gs U0 a b) (Gs a b):=by unfold Gs;infer_instance
instance (a)(b)(c):Le (@Y3 U0 a b c) (Y3 a b c):=by unfold Y3;infer_instance
instance (a):Le (@Et U0 a) (Et a):=by unfold Et;infer_instance
instance (a)(b):Le (@Cd U0 a b) (Cd a b):=by unfold Cd;infer_instance
instance (a)(b):Le (@H7 U0 a b) (H7 a b):=by unfold H7;infer_instance
instance (a)(b):Le (@E8 U0 a b) (E8 a b):=by unfold E8;infer_instance
instance (a)(b)(c):Le (@Y9 U0 a b c) (Y9 a b c):=by unfold Y9;infer_instance
instance (a)(b)(c):Le (@Z0 U0 a b c) (Z0 a b c):=by unfold Z0;infer_instance
instance (a)(b):Le (@Ba U0 a b) (Ba a b):=by unfold Ba;infer_instance
instance (a):Le (@K2 U0 a) (K2 a):=by unfold K2;infer_instance
instance (a):Le (@J3 U0 a) (J3 a):=by unfold J3;infer_instance
instance (a)(b):Le (@Fp U0 a b) (Fp a b):=by unfold Fp;infer_instance
instance (a)(b):Le (@G1 U0 a b) (G1 a b):=by unfold G1;infer_instance
instance (a)(b)(c):Le (@G2 U0 a b c) (G2 a b c):=by unfold G2;infer_instance
instance (a)(b)(c):Le (@F6 U0 a b c) (F6 a b c):=by unfold F6;infer_instance
instance (a)(b)(c):Le (@I4 U0 a b c) (I4 a b c):=by unfold I4;infer_instance
instance (a)(b):Le (@I5 U0 a b) (I5 a b):=by unfold I5;infer_instance
instance (a)(b):Le (@J6 U0 a b) (J6 a b):=by unfold J6;infer_instance
instance (a):Le (@G8 U0 a) (G8 a):=by unfold G8;infer_instance
instance (a)(b)(c):Le (@G3 U0 a b c) (G3 a b c):=by unfold G3;infer_instance
instance (a)(b):Le (@F7 U0 a b) (F7 a b):=by unfold F7;infer_instance
instance (a)(b):Le (@I6 U0 a b) (I6 a b):=by unfold I6;infer_instance
instance (a)(b):Le (@I7 U0 a b) (I7 a b):=by unfold I7;infer_instance
instance (a):Le (@J7 U0 a) (J7 a):=by unfold J7;infer_instance
instance:Le (@G9 U0) (G9):=by unfold G9;infer_instance
instance (a)(b)(c)(d)(e):Le (@Du U0 a b c d e) (Du a b c d e):=by unfold Du;infer_instance
instance (a)(b)(c):Le (@Dv U0 a b c) (Dv a b c):=by unfold Dv;infer_instance
instance (a)(b):Le (@Jv U0 a b) (Jv a b):=by unfold Jv;infer_instance
instance (a)(b)(c):Le (@J0 U0 a b c) (J0 a b c):=by unfold J0;infer_instance
instance (a)(b)(c):Le (@H4 U0 a b c) (H4 a b c):=by unfold H4;infer_instance
instance (a)(b)(c)(d):Le (@Ib U0 a b c d) (Ib a b c d):=by unfold Ib;infer_instance
instance (a)(b)(c):Le (@O0 U0 a b c) (O0 a b c):=by unfold O0;infer_instance
instance (a)(b)(c):Le (@F9 U0 a b c) (F9 a b c):=by unfold F9;infer_instance
instance (a)(b):Le (@E6 U0 a b) (E6 a b):=by unfold E6;infer_instance
instance (a)(b):Le (@K3 U0 a b) (K3 a b):=by unfold K3;infer_instance
instance (a)(b):Le (@Od U0 a b) (Od a b):=by unfold Od;infer_instance
instance (a)(b)(c):Le (@Bh U0 a b c) (Bh a b c):=by unfold Bh;infer_instance
instance (a)(b)(c)(d):Le (@J4 U0 a b c d) (J4 a b c d):=by unfold J4;infer_instance
instance (a)(b)(c):Le (@K4 U0 a b c) (K4 a b c):=by unfold K4;infer_instance
instance (a)(b)(c):Le (@Mj U0 a b c) (Mj a b c):=by unfold Mj;infer_instance
instance (a)(b)(c):Le (@Gk U0 a b c) (Gk a b c):=by unfold Gk;infer_instance
instance (a)(b):Le (@La U0 a b) (La a b):=by unfold La;infer_instance
instance (a)(b)(c):Le (@Fq U0 a b c) (Fq a b c):=by unfold Fq;infer_instance
instance (a)(b)(c):Le (@Jc U0 a b c) (Jc a b c):=by unfold Jc;infer_instance
instance (a)(b)(c)(d):Le (@Mk U0 a b c d) (Mk a b c d):=by unfold Mk;infer_instance
instance (a)(b):Le (@K5 U0 a b) (K5 a b):=by unfold K5;infer_instance
instance (a)(b)(c)(d):Le (@Ma U0 a b c d) (Ma a b c d):=by unfold Ma;infer_instance
instance (a)(b)(c)(d):Le (@V5 U0 a b c d) (V5 a b c d):=by unfold V5;infer_instance
instance (a)(b):Le (@V6 U0 a b) (V6 a b):=by unfold V6;infer_instance
instance (a):Le (@Z6 U0 a) (Z6 a):=by unfold Z6;infer_instance
instance (a)(b):Le (@Z1 U0 a b) (Z1 a b):=by unfold Z1;infer_instance
instance (a)(b)(c)(d):Le (@Aw U0 a b c d) (Aw a b c d):=by unfold Aw;infer_instance
instance (a)(b):Le (@Cw U0 a b) (Cw a b):=by unfold Cw;infer_instance
instance (a)(b):Le (@H9 U0 a b) (H9 a b):=by unfold H9;infer_instance
instance (a)(b):Le (@G6 U0 a b) (G6 a b):=by unfold G6;infer_instance
instance (a)(b):Le (@Aj U0 a b) (Aj a b):=by unfold Aj;infer_instance
instance (a)(b)(c):Le (@H5 U0 a b c) (H5 a b c):=by unfold H5;infer_instance
instance (a)(b):Le (@J1 U0 a b) (J1 a b):=by unfold J1;infer_instance
instance (a)(b):Le (@H6 U0 a b) (H6 a b):=by unfold H6;infer_instance
instance (a)(b)(c):Le (@Fr U0 a b c) (Fr a b c):=by unfold Fr;infer_instance
instance (a)(b)(c)(d):Le (@V7 U0 a b c d) (V7 a b c d):=by unfold V7;infer_instance
instance (a)(b)(c)(d):Le (@Jw U0 a b c d) (Jw a b c d):=by unfold Jw;infer_instance
instance (a)(b)(c)(d)(e):Le (@Jx U0 a b c d e) (Jx a b c d e):=by unfold Jx;infer_instance
instance (a)(b):Le (@Re U0 a b) (Re a b):=by unfold Re;infer_instance
instance (a)(b)(c):Le (@L0 U0 a b c) (L0 a b c):=by unfold L0;infer_instance
instance (a)(b)(c):Le (@M3 U0 a b c) (M3 a b c):=by unfold M3;infer_instance
instance (a)(b):Le (@M9 U0 a b) (M9 a b):=by unfold M9;infer_instance
instance (a)(b)(c)(d):Le (@O3 U0 a b c d) (O3 a b c d):=by unfold O3;infer_instance
instance (a):Le (@S8 U0 a) (S8 a):=by unfold S8;infer_instance
instance (a)(b)(c):Le (@L3 U0 a b c) (L3 a b c):=by unfold L3;infer_instance
instance (a)(b):Le (@M4 U0 a b) (M4 a b):=by unfold M4;infer_instance
instance (a):Le (@N0 U0 a) (N0 a):=by unfold N0;infer_instance
instance (a)(b)(c):Le (@O4 U0 a b c) (O4 a b c):=by unfold O4;infer_instance
instance:Le (@S9 U0) (S9):=by unfold S9;infer_instance
instance (a)(b)(c)(d)(e):Le (@Jy U0 a b c d e) (Jy a b c d e):=by unfold Jy;infer_instance
instance (a)(b)(c)(d):Le (@Jz U0 a b c d) (Jz a b c d):=by unfold Jz;infer_instance
instance (a)(b)(c):Le (@Rf U0 a b c) (Rf a b c):=by unfold Rf;infer_instance
instance (a)(b)(c):Le (@Rg U0 a b c) (Rg a b c):=by unfold Rg;infer_instance
instance (a)(b)(c)(d)(e):Le (@I0 U0 a b c d e) (I0 a b c d e):=by unfold I0;infer_instance
instance (a)(b)(c)(d)(e):Le (@G7 U0 a b c d e) (G7 a b c d e):=by unfold G7;infer_instance
instance (a)(b)(c)(d)(e):Le (@Ml U0 a b c d e) (Ml a b c d e):=by unfold Ml;infer_instance
instance (a)(b)(c)(d)(e):Le (@Ic U0 a b c d e) (Ic a b c d e):=by unfold Ic;infer_instance
instance (a)(b)(c)(d):Le (@Oe U0 a b c d) (Oe a b c d):=by unfold Oe;infer_instance
instance (a)(b)(c)(d):Le (@Of U0 a b c d) (Of a b c d):=by unfold Of;infer_instance
instance (a):Le (@Ie U0 a) (Ie a):=by unfold Ie;infer_instance
instance (a)(b)(c):Le (@V8 U0 a b c) (V8 a b c):=by unfold V8;infer_instance
instance (a)(b)(c):Le (@X8 U0 a b c) (X8 a b c):=by unfold X8;infer_instance
instance (a)(b)(c)(d)(e)(f)(g)(h):Le (@Fs U0 a b c d e f g h) (Fs a b c d e f g h):=by unfold Fs;infer_instance
instance (a)(b)(c)(d)(e)(f)(g)(h):Le (@Jg U0 a b c d e f g h) (Jg a b c d e f g h):=by unfold Jg;infer_instance
instance (a)(b)(c)(d)(e)(f)(g)(h)(i):Le (@Ft U0 a b c d e f g h i) (Ft a b c d e f g h i):=by unfold Ft;infer_instance
instance (a)(b)(c)(d)(e)(f)(g)(h):Le (@Lb U0 a b c d e f g h) (Lb a b c d e f g h):=by unfold Lb;infer_instance
instance (a)(b)(c)(d)(e)(f)(g)(h):Le (@If U0 a b c d e f g h) (If a b c d e f g h):=by unfold If;infer_instance
instance (a)(b)(c)(d)(e)(f):Le (@Lc U0 a b c d e f) (Lc a b c d e f):=by unfold Lc;infer_instance
instance (a)(b)(c)(d)(e)(f)(g)(h):Le (@Ig U0 a b c d e f g h) (Ig a b c d e f g h):=by unfold Ig;infer_instance
instance (a)(b)(c)(d)(e)(f):Le (@Ih U0 a b c d e f) (Ih a b c d e f):=by unfold Ih;infer_instance
instance (a)(b)(c)(d)(e):Le (@Ld U0 a b c d e) (Ld a b c d e):=by unfold Ld;infer_instance
instance (a)(b)(c)(d):Le (@Ii U0 a b c d) (Ii a b c d):=by unfold Ii;infer_instance
instance (a)(b)(c)(d):Le (@Lf U0 a b c d) (Lf a b c d):=by unfold Lf;infer_instance
instance (a)(b)(c):Le (@Oh U0 a b c) (Oh a b c):=by unfold Oh;infer_instance
instance law04_awake_le:Le (@Gl U0) (Gl):=by unfold Gl;infer_instance
theorem Hu (n:Int): ∃y,Er n=some (y,y*y==n)∧0≤y∧y≤67108864∧(∀m,0≤m→m<y→m*m<n)∧(y=67108864∨n≤y*y):=by
  have key:=QG (f:=Ky n) (fun x=>0≤x.1∧x.1≤x.2∧x.2≤67108864∧(∀m,0≤m→m<x.1→m*m<n)∧(x.2=67108864∨n≤x.2*x.2)) (fun x=>(x.2 - x.1).toNat)
    (fun y=>0≤y∧y≤67108864∧(∀m,0≤m→m<y→m*m<n)∧(y=67108864∨n≤y*y)) (by
      rintro ⟨lo,hi⟩ ⟨h1,h2,h3,h4,h5⟩
      dsimp only at h1 h2 h3 h4 h5
      unfold Ky
      dsimp only
      by_cases hlt:lo<hi
      ·have e1:C9 (lo+hi)=lo+hi:=E9 (by omega)
       have e2:C9 ((lo+hi).tdiv 2)=(lo+hi) / 2:=by rw [Int.tdiv_eq_ediv_of_nonneg (by omega)];exact E9 (by omega)
       have hm:lo≤(lo+hi) / 2∧(lo+hi) / 2<hi:=by omega
       generalize hmid:(lo+hi) / 2=mid at*
       have hmm:mid*mid≤67108864*67108864:=VO (by omega) (by omega)
       have hmm0:=Rb mid
       have e3:C9 (mid*mid)=mid*mid:=E9 (by omega)
       have e4:C9 (mid+1)=mid+1:=E9 (by omega)
       simp only [e1,e2,e3,e4,hlt,decide_true,bD]
       by_cases hc:mid*mid<n
       ·simp only [hc,decide_true,bD]
        refine ⟨_,rfl,⟨by omega,by omega,h3,fun m hm0 hm1=> ?_,h5⟩,by dsimp only;omega⟩
        rcases Int.lt_or_le m mid with q|q
        ·have:=Int.mul_le_mul (show m≤mid by omega) (show m≤mid by omega) hm0 (by omega);omega
        ·have:m=mid:=by dsimp only at hm1;omega
         subst this;exact hc
       ·simp only [hc,decide_false,bE]
        exact ⟨_,rfl,⟨h1,by dsimp only;omega,by dsimp only;omega,h4, .inr (by dsimp only;omega)⟩,by dsimp only;omega⟩
      ·simp only [hlt,decide_false,bE]
       obtain rfl:lo=hi:=by omega
       exact ⟨_,rfl,h1,h3,h4,h5⟩) (0,67108864) ⟨by decide,by decide,by decide,fun m h1 h2=>by dsimp only at h2;omega, .inl rfl⟩
  obtain ⟨y,hy,h1,h2,h3,h4⟩:=key
  refine ⟨y,?_,h1,h2,h3,h4⟩
  have hmm:y*y≤67108864*67108864:=VO (by omega) (by omega)
  have hmm0:=Rb y
  unfold Er
  rw [hy,lA,E9 (by omega)]
/-- The least number whose square is not less. -/
noncomputable def rt (n:Int):Int:=(Hu n).choose
theorem AI (n:Int):Er n=some (rt n,rt n*rt n==n):=(Hu n).choose_spec.1
theorem EQ (n:Int):0≤rt n:=(Hu n).choose_spec.2.1
theorem jF (n m:Int)(h1:0≤m)(h2:m<rt n):m*m<n:=(Hu n).choose_spec.2.2.2.1 m h1 h2
theorem jG (n:Int):rt n=67108864∨n≤rt n*rt n:=(Hu n).choose_spec.2.2.2.2
theorem cM {l:Int}(h0:0≤l)(h1:l≤67108864):rt (l*l)=l:=by
  rcases Int.lt_trichotomy (rt (l*l)) l with q|q|q
  ·rcases jG (l*l)with h|h
   ·omega
   ·have h2:=EQ (l*l)
    have:=Int.mul_lt_mul' (show rt (l*l)≤l by omega) q h2 (by omega);omega
  ·exact q
  ·have:=jF (l*l) l h0 q;omega
theorem GO (n:Int)(h0:0≤n)(h1:n<18014398509481984): ∃r,Ji n=some r∧0≤r∧r<134217728∧r*r≤n∧n< (r+1)* (r+1):=by
  have key:=QG (f:=Li n) (fun x=>0≤x.1∧x.1*x.1≤n∧((∃k:Nat,k≤26∧x.2=2^k∧x.1+2*2^k≤134217728∧n< (x.1+2*2^k)* (x.1+2*2^k))∨(x.2=0∧x.1<134217728∧n< (x.1+1)* (x.1+1)))) (fun x=>x.2.toNat)
    (fun r=>0≤r∧r<134217728∧r*r≤n∧n< (r+1)* (r+1)) (by
      rintro ⟨r,bit⟩ ⟨q1,q2,q3⟩
      dsimp only at q1 q2 q3
      unfold Li
      dsimp only
      rcases q3 with ⟨k,hk,rfl,q4,q5⟩|⟨rfl,q4,q5⟩
      ·have hp:(0:Int)<2^k:=Int.pow_pos (by decide)
       generalize hb:(2:Int)^k=b at*
       have e1:C9 (r+b)=r+b:=E9 (by omega)
       have hmm:(r+b)* (r+b)≤134217728*134217728:=VO (by omega) (by omega)
       have hmm0:=Rb (r+b)
       have e2:C9 ((r+b)* (r+b))=(r+b)* (r+b):=E9 (by omega)
       have e3:C9 (b.tdiv 2)=b / 2:=by rw [Int.tdiv_eq_ediv_of_nonneg (by omega)];exact E9 (by omega)
       have hb0:b>0:=by omega
       simp only [e1,e2,e3,hb0,decide_true,bD]
       have hnext: ∀r',0≤r'→r'*r'≤n→r'+b≤134217728→n< (r'+b)* (r'+b)→(∃j:Nat,j≤26∧b / 2=2^j∧r'+2*2^j≤134217728∧n< (r'+2*2^j)* (r'+2*2^j))∨(b / 2=0∧r'<134217728∧n< (r'+1)* (r'+1)):=by
         intro r' a1 a2 a3 a4
         cases k with
         |zero=>
          have:b=1:=by rw [← hb];rfl
          subst this
          exact .inr ⟨by decide,by omega,a4⟩
         |succ j=>
          have hj:b=2*2^j:=by rw [← hb,Int.pow_succ];omega
          refine .inl ⟨j,by omega,by omega,by omega,by rw [← hj];exact a4⟩
       by_cases hc:(r+b)* (r+b)≤n
       ·simp only [hc,decide_true,bD]
        refine ⟨_,rfl,⟨by dsimp only;omega,hc,hnext (r+b) (by omega) hc (by omega) (by rw [show r+b+b=r+2*b by omega];exact q5)⟩,by dsimp only;omega⟩
       ·simp only [hc,decide_false,bE]
        exact ⟨_,rfl,⟨q1,q2,hnext r q1 q2 (by omega) (by omega)⟩,by dsimp only;omega⟩
      ·simp only [show ¬(0:Int)>0 by decide,decide_false,bE]
       exact ⟨_,rfl,q1,q4,q2,q5⟩) (0,67108864) ⟨by decide,by dsimp only;omega, .inl ⟨26,by decide,by decide,by decide,by dsimp only;omega⟩⟩
  obtain ⟨r,hr,a⟩:=key
  exact ⟨r,by unfold Ji;rw [hr];rfl,a⟩
theorem LA {n:Int}(h0:0≤n)(h1:n≤4503599627370496): ∃r,Ji n=some r∧0≤r∧r<134217728∧(r*r=n↔rt n*rt n=n)∧(r*r=n→r=rt n):=by
  obtain ⟨r,hr,a1,a2,a3,a4⟩:=GO n h0 (by omega)
  have hr26:r≤67108864:=by
    rcases Int.lt_or_le r 67108865 with q|q
    ·omega
    ·have:=Int.mul_le_mul q q (by decide) (by omega);omega
  refine ⟨r,hr,a1,a2,⟨fun h=> ?_,fun h=> ?_⟩,fun h=> ?_⟩
  ·rw [← h,cM a1 hr26]
  ·rcases Int.lt_trichotomy r (rt n)with q|q|q
   ·have:=Int.mul_le_mul (show r+1≤rt n by omega) (show r+1≤rt n by omega) (by omega) (EQ n);omega
   ·rw [q];exact h
   ·have h2:=EQ n
    have:=Int.mul_lt_mul' (show rt n≤r by omega) q h2 (by omega);omega
  ·rw [← h,cM a1 hr26]
def Gc (p:Spot):Bool:=decide (-16777216≤p.X)&&decide (p.X≤16777216)&&decide (-16777216≤p.Y)&&decide (p.Y≤16777216)
theorem okS_iff {p:Spot}:Gc p=true↔ -16777216≤p.X∧p.X≤16777216∧ -16777216≤p.Y∧p.Y≤16777216:=by simp [Gc,and_assoc]
theorem XH (p:Spot):((decide ((He false p.X p.Y)< (-16777216)))||(decide ((He true p.X p.Y)>16777216)))= !Gc p:=by
  rw [Gp,Lm]
  cases h:Gc p with
  |true=>have:=okS_iff.1 h;simp;omega
  |false=>
   have: ¬(-16777216≤p.X∧p.X≤16777216∧ -16777216≤p.Y∧p.Y≤16777216):=fun q=>by rw [okS_iff.2 q]at h;cases h
   simp;omega
theorem LB (l:List Spot)(hl:l.length≤1000000): ∀(r:List Spot) (i:Nat),l.drop i=r→loop (Ep l) (i:Int)=some (if r.all Gc then .inl ()else .inr false):=by
  intro r
  induction r with
  |nil=>
   intro i hi
   have:=S6 hi
   refine F4 ?_
   unfold Ep
   simp only [show ¬(i:Int)<l.length by omega,decide_false,bE,List.all_nil,if_true]
  |cons p r ih=>
   intro i hi
   have hlt:=P4 hi
   have hstep:Ep l (i:Int)=if Gc p then some (.go ((i+1:Nat):Int))else some (.out (.inr false)):=by
     unfold Ep
     simp only [show (i:Int)<l.length by omega,decide_true,bD,W2 hi,lA,XH]
     cases h:Gc p with
     |true=>simp only [bL,bE,if_true];rw [E9 (by omega)];rfl
     |false=>simp
   cases h:Gc p with
   |true=>
    rw [h,bF rfl]at hstep
    rw [M6 hstep,ih (i+1) (L5 hi)]
    simp [h]
   |false=>
    rw [h]at hstep
    rw [F4 hstep]
    simp [h]
theorem Lj (l:List Spot)(hl:l.length≤1000000):Bk l=some (l.all Gc):=by
  unfold Bk
  have:=LB l hl l 0 (by simp)
  rw [show ((0:Nat):Int)=0 from rfl]at this
  rw [this]
  cases l.all Gc<;>rfl
theorem Nq (p:Spot):W0 p=some (Gc p):=by
  unfold W0 Gc;rfl
def M7 (p q:Spot):CurveVector:=⟨q.X - p.X,q.Y - p.Y⟩
def L6 (v w:CurveVector):Int:=v.x*w.x+v.y*w.y
/-- A vector between valid spots. -/
def OV (v:CurveVector):Prop:= -33554432≤v.x∧v.x≤33554432∧ -33554432≤v.y∧v.y≤33554432
theorem Iw {p q:Spot}(hp:Gc p=true)(hq:Gc q=true):OV (M7 p q):=by
  have:=okS_iff.1 hp;have:=okS_iff.1 hq
  unfold OV M7;dsimp only;omega
theorem Lk {p q:Spot}(hp:Gc p=true)(hq:Gc q=true):Gq p q=some (M7 p q):=by
  have:=okS_iff.1 hp;have:=okS_iff.1 hq
  unfold Gq M7
  rw [E9 (by omega),E9 (by omega)]
theorem UA {v w:CurveVector}(hv:OV v)(hw:OV w): -2251799813685248≤L6 v w∧L6 v w≤2251799813685248∧(-1125899906842624≤v.x*w.x∧v.x*w.x≤1125899906842624)∧ -1125899906842624≤v.y*w.y∧v.y*w.y≤1125899906842624:=by
  obtain ⟨a1,a2,a3,a4⟩:=hv
  obtain ⟨b1,b2,b3,b4⟩:=hw
  have h1:=Xv ⟨a1,a2⟩ ⟨b1,b2⟩
  have h2:=Xv ⟨a3,a4⟩ ⟨b3,b4⟩
  unfold L6
  omega
theorem Qw {v w:CurveVector}(hv:OV v)(hw:OV w):Y1 v w=some (L6 v w):=by
  have h:=UA hv hw
  unfold Y1
  rw [E9 (n:=v.x*w.x) (by omega),E9 (n:=v.y*w.y) (by omega),E9 (by unfold L6 at h;omega)]
  rfl
theorem UB (v:CurveVector):0≤L6 v v:=by have:=Rb v.x;have:=Rb v.y;unfold L6;omega
def vs (v:CurveVector):Spot:=⟨v.x,v.y⟩
theorem Di {p q:Spot}(hp:Gc p=true)(hq:Gc q=true):Bb q p=some (vs (M7 p q)):=by
  have:=okS_iff.1 hp;have:=okS_iff.1 hq
  unfold Bb M7 vs
  rw [E9 (by omega),E9 (by omega)]
theorem Qx {v w:CurveVector}(hv:OV v)(hw:OV w):Kd (vs v) (vs w)=some (L6 v w):=by
  have h:=UA hv hw
  unfold Kd vs
  dsimp only
  rw [E9 (n:=v.x*w.x) (by omega),E9 (n:=v.y*w.y) (by omega),E9 (by unfold L6 at h;omega)]
  rfl
/-- The error of a chain of points, from a piece on; the piece ahead of it. -/
noncomputable def QT:Option CurveVector→List Spot→Int
  |last,p::q::r=>
   if rt (L6 (M7 p q) (M7 p q))*rt (L6 (M7 p q) (M7 p q))≠L6 (M7 p q) (M7 p q)then 3
   else if rt (L6 (M7 p q) (M7 p q))<1000∨rt (L6 (M7 p q) (M7 p q))>1048576 then 2
   else match last with
     |some u=>if L6 u (M7 p q)≤0 then 12 else QT (some (M7 p q)) (q::r)
     |none=>QT (some (M7 p q)) (q::r)
  |_,_=>0
theorem DI (last:Option CurveVector)(p q:Spot)(r:List Spot):QT last (p::q::r)=
    if rt (L6 (M7 p q) (M7 p q))*rt (L6 (M7 p q) (M7 p q))≠L6 (M7 p q) (M7 p q)then 3
    else if rt (L6 (M7 p q) (M7 p q))<1000∨rt (L6 (M7 p q) (M7 p q))>1048576 then 2
    else match last with
      |some u=>if L6 u (M7 p q)≤0 then 12 else QT (some (M7 p q)) (q::r)
      |none=>QT (some (M7 p q)) (q::r):=by
  conv=>lhs;unfold QT
noncomputable def Ac (l:List Spot):Int:=if l.length<2 then 6 else if l.length>16 then 5 else if l.all Gc then QT none l else 2
theorem JC (c:Curve)(hl:c.Pts.length≤1000000)(hok:c.Pts.all Gc=true): ∀(r:List Spot) (p:Spot) (i:Nat) (last:CurveVector),c.Pts.drop i=p::r→OV last→
    loop (X0 c) ((i:Int),last)=some (if QT (if i=0 then none else some last) (p::r)=0 then .inl ()else .inr (QT (if i=0 then none else some last) (p::r))):=by
  intro r
  induction r with
  |nil=>
   intro p i last hi hlast
   have hlt:=P4 hi
   have:=S6 (L5 hi)
   refine F4 ?_
   unfold X0
   dsimp only
   rw [E9 (n:=(c.Pts.length:Int) - 1) (by omega)]
   simp only [show ¬(i:Int)< (c.Pts.length:Int) - 1 by omega,decide_false,bE,QT,if_true]
  |cons q r ih=>
   intro p i last hi hlast
   have hlt:=P4 hi
   have hi1:=L5 hi
   have hlt1:=P4 hi1
   have hp:Gc p=true:=lX.1 hok p (List.mem_of_mem_drop (i:=i) (by rw [hi];simp))
   have hq:Gc q=true:=lX.1 hok q (List.mem_of_mem_drop (i:=i) (by rw [hi];simp))
   have hv:=Iw hp hq
   have hg1:C8 c.Pts ((i:Int)+1)=some q:=by have:=W2 hi1;simpa using this
   have hstep:X0 c ((i:Int),last)=
    if rt (L6 (M7 p q) (M7 p q))*rt (L6 (M7 p q) (M7 p q))≠L6 (M7 p q) (M7 p q)then some (.out (.inr 3))
    else if rt (L6 (M7 p q) (M7 p q))<1000∨rt (L6 (M7 p q) (M7 p q))>1048576 then some (.out (.inr 2))
    else if i≠0∧L6 last (M7 p q)≤0 then some (.out (.inr 12))else some (.go (((i+1:Nat):Int),M7 p q)):=by
     unfold X0
     dsimp only
     rw [E9 (n:=(c.Pts.length:Int) - 1) (by omega),E9 (n:=(i:Int)+1) (by omega)]
     simp only [show (i:Int)< (c.Pts.length:Int) - 1 by omega,decide_true,bD,W2 hi,hg1,lA,Lk hp hq,Qw hv hv,AI]
     by_cases h1:rt (L6 (M7 p q) (M7 p q))*rt (L6 (M7 p q) (M7 p q))=L6 (M7 p q) (M7 p q)
     ·simp only [h1,beq_self_eq_true,bL,bE,ne_eq,not_true_eq_false,if_false]
      by_cases h2:rt (L6 (M7 p q) (M7 p q))<1000∨rt (L6 (M7 p q) (M7 p q))>1048576
      ·rw [bF h2]
       have:(decide (rt (L6 (M7 p q) (M7 p q))<1000)||decide (rt (L6 (M7 p q) (M7 p q))>1048576))=true:=by simpa using h2
       rw [this];rfl
      ·rw [bG h2]
       have:(decide (rt (L6 (M7 p q) (M7 p q))<1000)||decide (rt (L6 (M7 p q) (M7 p q))>1048576))=false:=by simpa using h2
       rw [this]
       simp only [bE]
       by_cases h3:i=0
       ·subst h3
        simp only [Int.natCast_zero,gt_iff_lt,Int.lt_irrefl,decide_false,bE,bI,lA,not_true_eq_false,false_and,if_false]
        rfl
       ·have h4:(i:Int)>0:=by omega
        simp only [h4,decide_true,bD,Qw hlast hv,lA,bH,h3,not_false_eq_true,true_and]
        by_cases h5:L6 last (M7 p q)≤0<;>simp [h5]
     ·have:(rt (L6 (M7 p q) (M7 p q))*rt (L6 (M7 p q) (M7 p q))==L6 (M7 p q) (M7 p q))=false:=by simpa using h1
      simp only [this,bM,bD,ne_eq,h1,not_false_eq_true,if_true]
   rw [DI]
   by_cases h1:rt (L6 (M7 p q) (M7 p q))*rt (L6 (M7 p q) (M7 p q))≠L6 (M7 p q) (M7 p q)
   ·rw [bF h1]at hstep
    rw [F4 hstep,bF h1];rfl
   ·rw [bG h1]at hstep ⊢
    by_cases h2:rt (L6 (M7 p q) (M7 p q))<1000∨rt (L6 (M7 p q) (M7 p q))>1048576
    ·rw [bF h2]at hstep
     rw [F4 hstep,bF h2];rfl
    ·rw [bG h2]at hstep ⊢
     by_cases h3:i=0
     ·subst h3
      rw [bG (by simp)]at hstep
      rw [M6 hstep,ih q (0+1) (M7 p q) hi1 hv]
      simp
     ·by_cases h5:L6 last (M7 p q)≤0
      ·rw [bF ⟨h3,h5⟩]at hstep
       rw [F4 hstep]
       simp [h3,h5]
      ·rw [bG (fun h=>h5 h.2)]at hstep
       rw [M6 hstep,ih q (i+1) (M7 p q) hi1 hv]
       simp [h3,h5]
theorem Nr (c:Curve)(hl:c.Pts.length≤1000000):Cc c=some (Ac c.Pts):=by
  unfold Cc Ac
  by_cases h1:c.Pts.length<2
  ·rw [bF h1,show decide ((c.Pts.length:Int)<2)=true by simp;omega];rfl
  ·rw [bG h1,show decide ((c.Pts.length:Int)<2)=false by simp;omega]
   simp only [bE]
   by_cases h2:c.Pts.length>16
   ·rw [bF h2,show decide ((c.Pts.length:Int)>16)=true by simp;omega];rfl
   ·rw [bG h2,show decide ((c.Pts.length:Int)>16)=false by simp;omega]
    simp only [bE,Lj c.Pts hl,lA]
    cases h3:c.Pts.all Gc with
    |false=>rfl
    |true=>
     simp only [bL,bE,if_true]
     cases hp:c.Pts with
     |nil=>rw [hp]at h1;simp at h1
     |cons p r=>
      have:=JC c hl h3 r p 0 ⟨0,0⟩ (by rw [hp];rfl) ⟨by decide,by decide,by decide,by decide⟩
      rw [bF rfl,show ((0:Nat):Int)=0 from rfl]at this
      rw [this]
      by_cases h4:QT none (p::r)=0
      ·rw [bF h4,h4];rfl
      ·rw [bG h4];rfl
theorem XI (v w:CurveVector):L6 v w=L6 w v:=by unfold L6;rw [Int.mul_comm v.x,Int.mul_comm v.y]
theorem GP (c:Curve)(hl:c.Pts.length≤1000000): ∀(r:List Spot) (i:Nat),c.Pts.drop i=r→loop (Dd c) (i:Int)=some (if r.all Gc then .inl ()else .inr 2):=by
  intro r
  induction r with
  |nil=>
   intro i hi
   have:=S6 hi
   refine F4 ?_
   unfold Dd
   simp only [show ¬(i:Int)<c.Pts.length by omega,decide_false,bE,List.all_nil,if_true]
  |cons p r ih=>
   intro i hi
   have hlt:=P4 hi
   have hstep:Dd c (i:Int)=if Gc p then some (.go ((i+1:Nat):Int))else some (.out (.inr 2)):=by
     unfold Dd
     simp only [show (i:Int)<c.Pts.length by omega,decide_true,bD,W2 hi,lA,Nq]
     cases h:Gc p with
     |true=>simp only [bL,bE,if_true];rw [E9 (by omega)];rfl
     |false=>simp
   cases h:Gc p with
   |true=>
    rw [h,bF rfl]at hstep
    rw [M6 hstep,ih (i+1) (L5 hi)]
    simp [h]
   |false=>
    rw [h]at hstep
    rw [F4 hstep]
    simp [h]
theorem cN {v:CurveVector}(hv:OV v): ∃l,Ji (L6 v v)=some l∧(C9 (l*l) !=L6 v v)= !(rt (L6 v v)*rt (L6 v v)==L6 v v)∧(rt (L6 v v)*rt (L6 v v)=L6 v v→l=rt (L6 v v)):=by
  have hb:=UA hv hv
  obtain ⟨l,h1,h2,h3,h4,h5⟩:=LA (UB v) (by omega)
  have hmm:l*l≤134217728*134217728:=VO (by omega) (by omega)
  have hmm0:=Rb l
  refine ⟨l,h1,?_,fun h=>h5 (h4.2 h)⟩
  rw [E9 (by omega)]
  by_cases h:l*l=L6 v v
  ·simp [h,h4.1 h]
  ·have h': ¬rt (L6 v v)*rt (L6 v v)=L6 v v:=fun q=>h (h4.2 q)
   have e1:(l*l !=L6 v v)=true:=bne_iff_ne.2 h
   have e2:(rt (L6 v v)*rt (L6 v v)==L6 v v)=false:=beq_eq_false_iff_ne.2 h'
   rw [e1,e2];rfl
theorem GQ (c:Curve)(hl:c.Pts.length≤1000000)(hok:c.Pts.all Gc=true): ∀(r:List Spot) (p:Spot) (i:Nat) (last:Option CurveVector),c.Pts.drop i=p::r→
    (i=0∧last=none∨∃j a,i=j+1∧c.Pts.drop j=a::p::r∧last=some (M7 a p))→
    loop (Dc c) (i:Int)=some (if QT last (p::r)=0 then .inl ()else .inr (QT last (p::r))):=by
  intro r
  induction r with
  |nil=>
   intro p i last hi hlast
   have hlt:=P4 hi
   have:=S6 (L5 hi)
   refine F4 ?_
   unfold Dc
   rw [E9 (n:=(i:Int)+1) (by omega)]
   simp only [show ¬(i:Int)+1< (c.Pts.length:Int) by omega,decide_false,bE,QT,if_true]
  |cons q r ih=>
   intro p i last hi hlast
   have hlt:=P4 hi
   have hi1:=L5 hi
   have hlt1:=P4 hi1
   have hp:Gc p=true:=lX.1 hok p (List.mem_of_mem_drop (i:=i) (by rw [hi];simp))
   have hq:Gc q=true:=lX.1 hok q (List.mem_of_mem_drop (i:=i) (by rw [hi];simp))
   have hv:=Iw hp hq
   have hg1:C8 c.Pts ((i:Int)+1)=some q:=by have:=W2 hi1;simpa using this
   obtain ⟨l,hl1,hl2,hl3⟩:=cN hv
   have hstep:Dc c (i:Int)=
    if rt (L6 (M7 p q) (M7 p q))*rt (L6 (M7 p q) (M7 p q))≠L6 (M7 p q) (M7 p q)then some (.out (.inr 3))
    else if rt (L6 (M7 p q) (M7 p q))<1000∨rt (L6 (M7 p q) (M7 p q))>1048576 then some (.out (.inr 2))
    else match last with
      |some u=>if L6 u (M7 p q)≤0 then some (.out (.inr 12))else some (.go ((i+1:Nat):Int))
      |none=>some (.go ((i+1:Nat):Int)):=by
     unfold Dc
     rw [E9 (n:=(i:Int)+1) (by omega)]
     simp only [show (i:Int)+1< (c.Pts.length:Int) by omega,decide_true,bD,W2 hi,hg1,lA,Di hp hq,Qx hv hv,hl1,hl2]
     by_cases h1:rt (L6 (M7 p q) (M7 p q))*rt (L6 (M7 p q) (M7 p q))=L6 (M7 p q) (M7 p q)
     ·simp only [h1,beq_self_eq_true,bL,bE,ne_eq,not_true_eq_false,if_false,hl3 h1]
      by_cases h2:rt (L6 (M7 p q) (M7 p q))<1000∨rt (L6 (M7 p q) (M7 p q))>1048576
      ·rw [bF h2]
       have:(decide (rt (L6 (M7 p q) (M7 p q))<1000)||decide (rt (L6 (M7 p q) (M7 p q))>1048576))=true:=by simpa using h2
       rw [this];rfl
      ·rw [bG h2]
       have:(decide (rt (L6 (M7 p q) (M7 p q))<1000)||decide (rt (L6 (M7 p q) (M7 p q))>1048576))=false:=by simpa using h2
       rw [this]
       simp only [bE]
       rcases hlast with ⟨rfl,rfl⟩|⟨j,a,rfl,hj,rfl⟩
       ·simp only [Int.natCast_zero,gt_iff_lt,Int.lt_irrefl,decide_false,bE,bI,lA]
        rfl
       ·have h4:(((j+1:Nat):Int))>0:=by omega
        have ha:Gc a=true:=lX.1 hok a (List.mem_of_mem_drop (i:=j) (by rw [hj];simp))
        have hva:=Iw ha hp
        have hgj:C8 c.Pts (C9 (((j+1:Nat):Int) - 1))=some a:=by
          rw [E9 (by omega),show (((j+1:Nat):Int) - 1)=(j:Int) by omega]
          exact W2 hj
        simp only [h4,decide_true,bD,hgj,lA,Di ha hp,Qx hv hva,bH]
        rw [XI (M7 p q) (M7 a p)]
        by_cases h5:L6 (M7 a p) (M7 p q)≤0
        ·simp [h5]
        ·simp [h5]
     ·have:(rt (L6 (M7 p q) (M7 p q))*rt (L6 (M7 p q) (M7 p q))==L6 (M7 p q) (M7 p q))=false:=by simpa using h1
      simp only [this,bM,bD,ne_eq,h1,not_false_eq_true,if_true]
   rw [DI]
   have hrec:=ih q (i+1) (some (M7 p q)) hi1 (.inr ⟨i,p,rfl,hi,rfl⟩)
   by_cases h1:rt (L6 (M7 p q) (M7 p q))*rt (L6 (M7 p q) (M7 p q))≠L6 (M7 p q) (M7 p q)
   ·rw [bF h1]at hstep
    rw [F4 hstep,bF h1];rfl
   ·rw [bG h1]at hstep ⊢
    by_cases h2:rt (L6 (M7 p q) (M7 p q))<1000∨rt (L6 (M7 p q) (M7 p q))>1048576
    ·rw [bF h2]at hstep
     rw [F4 hstep,bF h2];rfl
    ·rw [bG h2]at hstep ⊢
     cases last with
     |none=>rw [M6 hstep,hrec]
     |some u=>
      dsimp only at hstep ⊢
      by_cases h5:L6 u (M7 p q)≤0
      ·rw [bF h5]at hstep
       rw [F4 hstep];simp [h5]
      ·rw [bG h5]at hstep
       rw [M6 hstep,hrec];simp [h5]
theorem Yt (c:Curve)(hl:c.Pts.length≤1000000):Mo c=some (Ac c.Pts):=by
  unfold Mo Ac
  by_cases h1:c.Pts.length<2
  ·rw [bF h1,show decide ((c.Pts.length:Int)<2)=true by simp;omega];rfl
  ·rw [bG h1,show decide ((c.Pts.length:Int)<2)=false by simp;omega]
   simp only [bE]
   by_cases h2:c.Pts.length>16
   ·rw [bF h2,show decide ((c.Pts.length:Int)>16)=true by simp;omega];rfl
   ·rw [bG h2,show decide ((c.Pts.length:Int)>16)=false by simp;omega]
    have hg:=GP c hl c.Pts 0 (by simp)
    rw [show ((0:Nat):Int)=0 from rfl]at hg
    simp only [bE,hg]
    cases h3:c.Pts.all Gc with
    |false=>rfl
    |true=>
     simp only [if_true,thenS]
     cases hp:c.Pts with
     |nil=>rw [hp]at h1;simp at h1
     |cons p r=>
      have:=GQ c hl h3 r p 0 none (by rw [hp];rfl) (.inl ⟨rfl,rfl⟩)
      rw [show ((0:Nat):Int)=0 from rfl]at this
      rw [this]
      by_cases h4:QT none (p::r)=0
      ·rw [bF h4,h4]
      ·rw [bG h4]
/-- What a valid chain is. -/
inductive Good:Option CurveVector→List Spot→Prop
  |one (last:Option CurveVector) (p:Spot):Good last [p]
  |cons (last:Option CurveVector) (p q:Spot) (r:List Spot) (h1:rt (L6 (M7 p q) (M7 p q))*rt (L6 (M7 p q) (M7 p q))=L6 (M7 p q) (M7 p q)) (h2:1000≤rt (L6 (M7 p q) (M7 p q))) (h3:rt (L6 (M7 p q) (M7 p q))≤1048576)
     (h4: ∀u,last=some u→0<L6 u (M7 p q)) (h:Good (some (M7 p q)) (q::r)):Good last (p::q::r)
theorem QU: ∀(r:List Spot) (p:Spot) (last:Option CurveVector),QT last (p::r)=0→Good last (p::r):=by
  intro r
  induction r with
  |nil=>intro p last _;exact .one _ _
  |cons q r ih=>
   intro p last h
   rw [DI]at h
   split at h
   ·cases h
   ·rename_i h1
    split at h
    ·cases h
    ·rename_i h2
     have h1:rt (L6 (M7 p q) (M7 p q))*rt (L6 (M7 p q) (M7 p q))=L6 (M7 p q) (M7 p q):=by simpa using h1
     cases last with
     |none=>exact .cons _ _ _ _ h1 (by omega) (by omega) (fun u hu=>by cases hu) (ih q _ h)
     |some u=>
      dsimp only at h
      split at h
      ·cases h
      ·exact .cons _ _ _ _ h1 (by omega) (by omega) (fun u' hu=>by cases hu;omega) (ih q _ h)
theorem QV {last:Option CurveVector}{l:List Spot}(h:Good last l):QT last l=0:=by
  induction h with
  |one=>rfl
  |cons last p q r h1 h2 h3 h4 h ih=>
   rw [DI,bG (by simpa using h1),bG (by omega)]
   cases last with
   |none=>exact ih
   |some u=>dsimp only;rw [bG (by have:=h4 u rfl;omega)];exact ih
structure Valid (l:List Spot):Prop where
  two:2≤l.length
  most:l.length≤16
  ok:l.all Gc=true
  good:Good none l
theorem checkM_zero {l:List Spot}:Ac l=0↔Valid l:=by
  unfold Ac
  constructor
  ·intro h
   split at h
   ·cases h
   ·rename_i h1
    split at h
    ·cases h
    ·rename_i h2
     split at h
     ·rename_i h3
      cases l with
      |nil=>simp at h1
      |cons p r=>exact ⟨by omega,by omega,h3,QU r p none h⟩
     ·cases h
  ·rintro ⟨h1,h2,h3,h4⟩
   rw [bG (by omega),bG (by omega),bF h3]
   exact QV h4
/-- The pieces of a chain: the number, the piece. -/
noncomputable def Lv:Nat→Int→List Spot→List (Int×CurvePiece)
  |i,s,p::q::r=>((i:Int),⟨p,M7 p q,rt (L6 (M7 p q) (M7 p q)),s⟩)::Lv (i+1) (C9 (s+rt (L6 (M7 p q) (M7 p q)))) (q::r)
  |_,_,_=> []
theorem Vl (i:Nat)(s:Int)(p q:Spot)(r:List Spot):Lv i s (p::q::r)=((i:Int),⟨p,M7 p q,rt (L6 (M7 p q) (M7 p q)),s⟩)::Lv (i+1) (C9 (s+rt (L6 (M7 p q) (M7 p q)))) (q::r):=by conv=>lhs;unfold Lv
theorem QW (pts:List Spot)(hok:pts.all Gc=true): ∀(r:List Spot) (p:Spot) (i:Nat) (s:Int),pts.drop i=p::r→Hj pts r.length i s=some (Lv i s (p::r)):=by
  intro r
  induction r with
  |nil=>intro p i s _;rfl
  |cons q r ih=>
   intro p i s hi
   have hi1:=L5 hi
   have hp:Gc p=true:=lX.1 hok p (List.mem_of_mem_drop (i:=i) (by rw [hi];simp))
   have hq:Gc q=true:=lX.1 hok q (List.mem_of_mem_drop (i:=i) (by rw [hi];simp))
   have hv:=Iw hp hq
   have h0:pts[i]? =some p:=by have:=congrArg (fun z=>z[0]?) hi;simpa using this
   have h1:pts[i+1]? =some q:=by have:=congrArg (fun z=>z[0]?) hi1;simpa using this
   rw [lJ,Hj,h0,h1]
   simp only [lA,Lk hp hq,Qw hv hv,AI]
   rw [ih q (i+1) _ hi1,Vl]
   rfl
theorem JD {pts:List Spot}(h:Valid pts):Oq pts=some (Lv 0 0 pts):=by
  unfold Oq
  have:=h.most
  rw [bF (by omega)]
  cases hp:pts with
  |nil=>have:=h.two;rw [hp]at this;simp at this
  |cons p r=>exact QW (p::r) (by rw [← hp];exact h.ok) r p 0 0 rfl
/-- The lengths. -/
noncomputable def Y4:List Spot→List Int
  |p::q::r=>rt (L6 (M7 p q) (M7 p q))::Y4 (q::r)
  |_=> []
theorem Ri (p q:Spot)(r:List Spot):Y4 (p::q::r)=rt (L6 (M7 p q) (M7 p q))::Y4 (q::r):=by conv=>lhs;unfold Y4
theorem Gm: ∀(r:List Spot) (p:Spot),(Y4 (p::r)).length=r.length
  | [],_=>rfl
  |q::r,p=>by rw [Ri,lJ,Gm r q,lJ]
theorem DJ: ∀(r:List Spot) (p:Spot) (i:Nat) (s:Int),(Lv i s (p::r)).map (·.2.l)=Y4 (p::r)
  | [],_,_,_=>rfl
  |q::r,p,i,s=>by rw [Vl,Ri,lO,DJ r q]
theorem QX: ∀(L:List (Int×CurvePiece)) (out:List Int),out.length+L.length≤1000000000→loopL Ds (fun x=>x) L out=some (out++L.map (·.2.l)):=by
  intro L
  induction L with
  |nil=>intro out _;simp [loopL]
  |cons a L ih=>
   intro out h
   simp only [lJ]at h
   have:Ds out a=some (.go (out++ [a.2.l])):=by
     unfold Ds
     rw [Ff (by simp;omega)];rfl
   rw [loopL,this]
   dsimp only
   rw [ih _ (by simp;omega)]
   simp
theorem GR (c:Curve)(hl:c.Pts.length≤1000000):Ed c=some (if Ac c.Pts=0 then Y4 c.Pts else []):=by
  unfold Ed
  rw [Nr c hl,lA]
  by_cases h:Ac c.Pts=0
  ·rw [bF h,h]
   have hv:=checkM_zero.1 h
   have:=hv.most
   simp only [bne_self_eq_false,bE,JD hv,lA]
   cases hp:c.Pts with
   |nil=>have:=hv.two;rw [hp]at this;simp at this
   |cons p r=>
    have e:=DJ r p 0 0
    rw [QX _ _ (by
     have:=congrArg List.length e
     rw [lP,Gm]at this
     rw [this];rw [hp]at hl;simp at hl ⊢;omega)]
    rw [e];rfl
  ·rw [bG h,show (Ac c.Pts !=0)=true from bne_iff_ne.2 h];rfl
theorem DK (c:Curve)(hl:c.Pts.length≤1000000)(hok:c.Pts.all Gc=true): ∀(r:List Spot) (p:Spot) (i:Nat) (out:List Int) (last:Option CurveVector),c.Pts.drop i=p::r→Good last (p::r)→out.length+r.length≤1000000→
    loop (Bp c) (out,(i:Int))=some (out++Y4 (p::r)):=by
  intro r
  induction r with
  |nil=>
   intro p i out last hi _ _
   have hlt:=P4 hi
   have:=S6 (L5 hi)
   refine F4 ?_
   unfold Bp
   dsimp only
   rw [E9 (n:=(i:Int)+1) (by omega)]
   simp only [show ¬(i:Int)+1< (c.Pts.length:Int) by omega,decide_false,bE,Y4,List.append_nil]
  |cons q r ih=>
   intro p i out last hi hg ho
   have hlt:=P4 hi
   have hi1:=L5 hi
   have hlt1:=P4 hi1
   have hp:Gc p=true:=lX.1 hok p (List.mem_of_mem_drop (i:=i) (by rw [hi];simp))
   have hq:Gc q=true:=lX.1 hok q (List.mem_of_mem_drop (i:=i) (by rw [hi];simp))
   have hv:=Iw hp hq
   have hg1:C8 c.Pts ((i:Int)+1)=some q:=by have:=W2 hi1;simpa using this
   obtain ⟨l,hl1,hl2,hl3⟩:=cN hv
   cases hg with
   |cons _ _ _ _ h1 h2 h3 h4 hg=>
    have hll:=hl3 h1
    subst hll
    simp only [lJ]at ho
    have hstep:Bp c (out,(i:Int))=some (.go (out++ [rt (L6 (M7 p q) (M7 p q))],((i+1:Nat):Int))):=by
      unfold Bp
      dsimp only
      rw [E9 (n:=(i:Int)+1) (by omega)]
      simp only [show (i:Int)+1< (c.Pts.length:Int) by omega,decide_true,bD,W2 hi,hg1,lA,Di hp hq,Qx hv hv,hl1]
      rw [Ff (by simp;omega)]
      rfl
    rw [M6 hstep,ih q (i+1) _ _ hi1 hg (by simp;omega),Ri]
    simp
theorem Qi (c:Curve)(hl:c.Pts.length≤1000000):Bz c=some (if Ac c.Pts=0 then Y4 c.Pts else []):=by
  unfold Bz
  rw [Yt c hl,lA]
  by_cases h:Ac c.Pts=0
  ·rw [bF h,h]
   have hv:=checkM_zero.1 h
   simp only [bne_self_eq_false,bE]
   cases hp:c.Pts with
   |nil=>have:=hv.two;rw [hp]at this;simp at this
   |cons p r=>
    have:=DK c hl hv.ok r p 0 [] none (by rw [hp];rfl) (by rw [← hp];exact hv.good) (by rw [hp]at hl;simp at hl ⊢;omega)
    rw [show ((0:Nat):Int)=0 from rfl]at this
    rw [this];rfl
  ·rw [bG h,show (Ac c.Pts !=0)=true from bne_iff_ne.2 h];rfl
/-- A sum, as the programs take it. -/
def Vm:Int→List Int→Int
  |s,[]=>s
  |s,a::l=>Vm (C9 (s+a)) l
theorem DL (l:List Int)(hl:l.length≤1000000): ∀(r:List Int) (i:Nat) (s:Int),l.drop i=r→loop (Z7 l) (s,(i:Int))=some (Vm s r):=by
  intro r
  induction r with
  |nil=>
   intro i s hi
   have:=S6 hi
   refine F4 ?_
   unfold Z7
   simp only [show ¬(i:Int)<l.length by omega,decide_false,bE,Vm]
  |cons a r ih=>
   intro i s hi
   have hlt:=P4 hi
   have hstep:Z7 l (s,(i:Int))=some (.go (C9 (s+a),((i+1:Nat):Int))):=by
     unfold Z7
     simp only [show (i:Int)<l.length by omega,decide_true,bD,W2 hi,lA]
     rw [E9 (n:=(i:Int)+1) (by omega)];rfl
   rw [M6 hstep,ih (i+1) _ (L5 hi),Vm]
theorem DM (l:List Int)(hl:l.length≤1000000): ∀(r:List Int) (i:Nat) (s:Int),l.drop i=r→loop (Aa l) (s,(i:Int))=some (Vm s r):=by
  intro r
  induction r with
  |nil=>
   intro i s hi
   have:=S6 hi
   refine F4 ?_
   unfold Aa
   simp only [show ¬(i:Int)<l.length by omega,decide_false,bE,Vm]
  |cons a r ih=>
   intro i s hi
   have hlt:=P4 hi
   have hstep:Aa l (s,(i:Int))=some (.go (C9 (s+a),((i+1:Nat):Int))):=by
     unfold Aa
     simp only [show (i:Int)<l.length by omega,decide_true,bD,W2 hi,lA]
     rw [E9 (n:=(i:Int)+1) (by omega)];rfl
   rw [M6 hstep,ih (i+1) _ (L5 hi),Vm]
noncomputable def Dl (c:Curve):List Int:=if Ac c.Pts=0 then Y4 c.Pts else []
theorem fX: ∀l:List Spot,(Y4 l).length≤l.length
  | []=>by simp [Y4]
  |p::r=>by rw [Gm];simp
theorem JE (c:Curve):(Dl c).length≤c.Pts.length:=by
  unfold Dl
  split
  ·exact fX _
  ·simp
theorem Wd (c:Curve)(hl:c.Pts.length≤1000000):Bv c=some (Vm 0 (Dl c)):=by
  unfold Bv
  rw [GR c hl,lA]
  have:=JE c
  have h:=DL (Dl c) (by omega) (Dl c) 0 0 (by simp)
  rw [show ((0:Nat):Int)=0 from rfl]at h
  show (loop (Z7 (Dl c)) (0,0)).bind _=_
  rw [h];rfl
theorem We (c:Curve)(hl:c.Pts.length≤1000000):Ca c=some (Vm 0 (Dl c)):=by
  unfold Ca
  rw [Qi c hl,lA]
  have:=JE c
  have h:=DM (Dl c) (by omega) (Dl c) 0 0 (by simp)
  rw [show ((0:Nat):Int)=0 from rfl]at h
  show (loop (Aa (Dl c)) (0,0)).bind _=_
  rw [h];rfl
/-- A quarter turn, so many times. -/
def XJ:Nat→CurveVector→CurveVector
  |0,v=>v
  |n+1,v=>XJ n ⟨-v.y,v.x⟩
theorem OL: ∀(n:Nat) (v w:CurveVector),L6 (XJ n v) (XJ n w)=L6 v w
  |0,_,_=>rfl
  |n+1,v,w=>by rw [XJ,XJ,OL n];unfold L6;grind
/-- A piece's vector, made of numbers: in one quadrant. -/
def jH (n:Nat)(v:CurveVector):Prop:= ∃x y L:Int,v=XJ n ⟨x,y⟩∧0<x∧0≤y∧x*x+y*y=L*L∧1000≤L∧L≤3029∧x≤L∧y≤L
inductive Ch (Q:CurveVector→Prop):List Spot→Prop
  |one (p:Spot):Ch Q [p]
  |cons (p q:Spot) (r:List Spot) (h:Q (M7 p q)) (hr:Ch Q (q::r)):Ch Q (p::q::r)
theorem JF {n:Nat}: ∀(r:List Spot) (p:Spot) (last:Option CurveVector),Ch (jH n) (p::r)→(∀u,last=some u→jH n u)→Good last (p::r)
  | [],p,last,_,_=> .one _ _
  |q::r,p,last,hc,hl=>by
   cases hc with
   |cons _ _ _ h1 h2=>
    have hq:=h1
    obtain ⟨x,y,L,hv,hx,hy,hsq,hL1,hL2,hxL,hyL⟩:=h1
    have hd:L6 (M7 p q) (M7 p q)=L*L:=by rw [hv,OL];unfold L6;exact hsq
    have hrt:rt (L6 (M7 p q) (M7 p q))=L:=by rw [hd];exact cM (by omega) (by omega)
    refine .cons _ _ _ _ (by rw [hrt,hd]) (by rw [hrt];exact hL1) (by rw [hrt];omega) (fun u hu=> ?_) (JF r q _ h2 (fun u hu=>by cases hu;exact hq))
    obtain ⟨x',y',L',hv',hx',hy',_⟩:=hl u hu
    rw [hv,hv',OL]
    unfold L6
    have:=Int.mul_pos hx' hx
    have:=wB hy' hy
    dsimp only
    omega
/-- What the curves made of numbers are like. -/
structure Made (l:List Spot):Prop where
  two:2≤l.length
  six:l.length≤6
  ch: ∃n,Ch (jH n) l
  bd: ∀p∈l, -50000≤p.X∧p.X≤50000∧ -50000≤p.Y∧p.Y≤50000
theorem Made.valid {l:List Spot}(h:Made l):Valid l:=by
  obtain ⟨n,hc⟩:=h.ch
  have:=h.two;have:=h.six
  refine ⟨h.two,by omega,lX.2 fun p hp=>okS_iff.2 (by have:=h.bd p hp;omega),?_⟩
  match l,h,hc with
  |p::r,_,hc=>exact JF r p none hc (fun u hu=>by cases hu)
  | [],h,_=>exact absurd h.two (by simp)
noncomputable def V2 (p q:Spot):Int:=rt (L6 (M7 p q) (M7 p q))
theorem Ez (p q:Spot)(r:List Spot):Y4 (p::q::r)=V2 p q::Y4 (q::r):=Ri p q r
theorem Ty (i:Nat)(s:Int)(p q:Spot)(r:List Spot):Lv i s (p::q::r)=((i:Int),⟨p,M7 p q,V2 p q,s⟩)::Lv (i+1) (C9 (s+V2 p q)) (q::r):=Vl i s p q r
theorem Good.inv {last:Option CurveVector}{p q:Spot}{r:List Spot}(h:Good last (p::q::r)):V2 p q*V2 p q=L6 (M7 p q) (M7 p q)∧1000≤V2 p q∧V2 p q≤1048576∧(∀u,last=some u→0<L6 u (M7 p q))∧Good (some (M7 p q)) (q::r):=by
  cases h with|cons _ _ _ _ h1 h2 h3 h4 h=>exact ⟨h1,h2,h3,h4,h⟩
/-- The piece in which an offset lies. -/
noncomputable def Bs:Nat→Int→Spot→Spot→List Spot→Int→Nat×CurvePiece
  |i,st,p,q,[],_=>(i,⟨p,M7 p q,V2 p q,st⟩)
  |i,st,p,q,q'::r,s=>if st+V2 p q≤s then Bs (i+1) (st+V2 p q) q q' r s else (i,⟨p,M7 p q,V2 p q,st⟩)
theorem XK (s:Int): ∀(r:List Spot) (p:Spot) (i:Nat) (st:Int) (x:Int×CurvePiece) (last:Option CurveVector),Good last (p::r)→0<i→0≤st→s<st→st+1048576*r.length≤1000000000→
    loopL (X1 s) (fun x=>(x.1,x.2)) (Lv i st (p::r)) x=some x:=by
  intro r
  induction r with
  |nil=>intro p i st x last _ _ _ _ _;rfl
  |cons q r ih=>
   intro p i st x last hg hi h0 hs hb
   obtain ⟨h1,h2,h3,h4,hg⟩:=hg.inv
   ·skip
    simp only [lJ]at hb
    have hst:C9 (st+V2 p q)=st+V2 p q:=E9 (by omega)
    rw [Ty,loopL]
    have:X1 s x ((i:Int),⟨p,M7 p q,V2 p q,st⟩)=some (.go (x.1,x.2)):=by
      unfold X1
      dsimp only
      rw [show ((i:Int)==0)=false from beq_eq_false_iff_ne.2 (by omega),show decide (st≤s)=false by simp;omega]
      rfl
    rw [this]
    dsimp only
    rw [hst]
    exact ih q (i+1) _ _ _ hg (by omega) (by omega) (by omega) (by omega)
theorem XL (s:Int)(hs0:0≤s): ∀(r:List Spot) (p q:Spot) (i:Nat) (st:Int) (x:Int×CurvePiece) (last:Option CurveVector),Good last (p::q::r)→0≤st→st≤s→st+1048576* (r.length+1)≤1000000000→
    loopL (X1 s) (fun x=>(x.1,x.2)) (Lv i st (p::q::r)) x=some (((Bs i st p q r s).1:Int),(Bs i st p q r s).2):=by
  intro r
  induction r with
  |nil=>
   intro p q i st x last hg h0 hs hb
   rw [Ty,loopL]
   have:X1 s x ((i:Int),⟨p,M7 p q,V2 p q,st⟩)=some (.go ((i:Int),⟨p,M7 p q,V2 p q,st⟩)):=by
     unfold X1
     dsimp only
     rw [show decide (st≤s)=true by simp [hs]]
     simp
   rw [this]
   rfl
  |cons q' r ih=>
   intro p q i st x last hg h0 hs hb
   obtain ⟨h1,h2,h3,h4,hg⟩:=hg.inv
   ·skip
    simp only [lJ]at hb
    have hst:C9 (st+V2 p q)=st+V2 p q:=E9 (by omega)
    rw [Ty,loopL]
    have:X1 s x ((i:Int),⟨p,M7 p q,V2 p q,st⟩)=some (.go ((i:Int),⟨p,M7 p q,V2 p q,st⟩)):=by
      unfold X1
      dsimp only
      rw [show decide (st≤s)=true by simp [hs]]
      simp
    rw [this]
    dsimp only
    rw [hst,Bs]
    by_cases hc:st+V2 p q≤s
    ·rw [bF hc]
     exact ih q q' (i+1) _ _ _ hg (by omega) hc (by omega)
    ·rw [bG hc]
     exact XK s (q'::r) q (i+1) _ _ _ hg (by omega) (by omega) (by omega) (by simp only [lJ];omega)
/-- The sum of what is left. -/
noncomputable def Gi:List Int→Int
  | []=>0
  |a::l=>a+Gi l
theorem FR: ∀(a b:List Int),Gi (a++b)=Gi a+Gi b
  | [],b=>by simp [Gi]
  |x::a,b=>by rw [lS,Gi,Gi,FR a b];omega
theorem ER: ∀(i:Nat) (l:List Spot),Y4 (l.drop i)=(Y4 l).drop i
  |0,_=>rfl
  |_+1,[]=>by simp [Y4]
  |_+1,[_]=>by simp [Y4]
  |i+1,p::q::r=>by rw [Ez,List.drop_succ_cons,List.drop_succ_cons];exact ER i (q::r)
theorem XM {L:List Int}{i:Nat}{a:Int}{r:List Int}(h:L.drop i=a::r):Gi (L.take (i+1))=Gi (L.take i)+a:=by
  have hlt:=P4 h
  have:L[i]=a:=by
    have:=congrArg (fun z=>z[0]?) h
    simp at this
    rw [lG hlt]at this
    exact lC this
  rw [List.take_succ_eq_append_getElem hlt,FR,this]
  simp [Gi]
/-- What the found piece is. -/
theorem UC (pts:List Spot)(s:Int): ∀(r:List Spot) (p q:Spot) (i:Nat) (st:Int) (last:Option CurveVector),Good last (p::q::r)→pts.drop i=p::q::r→0≤st→st≤s→st=Gi ((Y4 pts).take i)→
    ∃p' q' r',(Bs i st p q r s).2.start=Gi ((Y4 pts).take (Bs i st p q r s).1)∧(pts.drop (Bs i st p q r s).1=p'::q'::r')∧(Bs i st p q r s).2.p=p'∧(Bs i st p q r s).2.v=M7 p' q'∧(Bs i st p q r s).2.l=V2 p' q'∧st≤(Bs i st p q r s).2.start∧(Bs i st p q r s).2.start≤s∧1000≤V2 p' q'∧V2 p' q'≤1048576∧
     V2 p' q'*V2 p' q'=L6 (M7 p' q') (M7 p' q')∧(r'≠ []→s< (Bs i st p q r s).2.start+V2 p' q'):=by
  intro r
  induction r with
  |nil=>
   intro p q i st last hg hi h0 hs hst
   obtain ⟨h1,h2,h3,h4,hg⟩:=hg.inv
   exact ⟨p,q,[],hst,hi,rfl,rfl,rfl,Int.le_refl _,hs,h2,h3,h1,fun h=>absurd rfl h⟩
  |cons q' r ih=>
   intro p q i st last hg hi h0 hs hst
   obtain ⟨h1,h2,h3,h4,hg⟩:=hg.inv
   ·skip
    have hdl:(Y4 pts).drop i=V2 p q::Y4 (q::q'::r):=by rw [← ER,hi,Ez]
    rw [Bs]
    by_cases hc:st+V2 p q≤s
    ·rw [bF hc]
     obtain ⟨a,b,c,e0,e1,e2,e3,e4,e5,e6⟩:=ih q q' (i+1) (st+V2 p q) _ hg (L5 hi) (by omega) hc (by rw [XM hdl,hst])
     exact ⟨a,b,c,e0,e1,e2,e3,e4,by omega,e6⟩
    ·rw [bG hc]
     exact ⟨p,q,q'::r,hst,hi,rfl,rfl,rfl,Int.le_refl _,hs,h2,h3,h1,fun _=>by dsimp only;omega⟩
theorem MF: ∀(l:List Int) (s:Int),(∀a∈l,0≤a∧a≤1048576)→0≤s→s+1048576*l.length≤1000000000000→Vm s l=s+Gi l
  | [],s,_,_,_=>by simp [Vm,Gi]
  |a::l,s,h,h0,hb=>by
   have ha:=h a (by simp)
   simp only [lJ]at hb
   rw [Vm,Gi,E9 (by omega),MF l (s+a) (fun b hb=>h b (by simp [hb])) (by omega) (by omega)]
   omega
theorem ES: ∀(r:List Spot) (p:Spot) (last:Option CurveVector),Good last (p::r)→∀a∈Y4 (p::r),1000≤a∧a≤1048576
  | [],p,last,_,a,ha=>by simp [Y4]at ha
  |q::r,p,last,hg,a,ha=>by
   obtain ⟨h1,h2,h3,h4,hg⟩:=hg.inv
   ·skip
    rw [Ez,lR]at ha
    rcases ha with rfl|ha
    ·exact ⟨h2,h3⟩
    ·exact ES r q _ hg a ha
theorem Yu: ∀(l:List Int),(∀a∈l,0≤a)→0≤Gi l
  | [],_=>by simp [Gi]
  |a::l,h=>by have:=h a (by simp);have:=Yu l (fun b hb=>h b (by simp [hb]));rw [Gi];omega
theorem QY (p q:Spot):Y4 [p,q]= [V2 p q]:=rfl
theorem JG (L:List Int)(hL:L.length≤1000)(s:Int): ∀(r:List Spot) (p q:Spot) (i:Nat) (st:Int) (last:Option CurveVector),Good last (p::q::r)→L.drop i=Y4 (p::q::r)→0≤st→st≤s→s≤1000000000000→
    s≤st+Gi (Y4 (p::q::r))→∃y,loop (Bc L) (s - st,(i:Int))=some y∧
     Sum.elim (fun y1=>some (C9 ((L.length:Int) - 1),y1)) some y=some (((Bs i st p q r s).1:Int),s - (Bs i st p q r s).2.start):=by
  intro r
  induction r with
  |nil=>
   intro p q i st last hg hd h0 hs hb hsum
   have hlen:L.length=i+1:=by
     have:=congrArg List.length hd
     rw [lU,QY]at this
     simp at this;omega
   refine ⟨.inl (s - st),F4 ?_,?_⟩
   ·unfold Bc
    dsimp only
    rw [E9 (n:=(L.length:Int) - 1) (by omega)]
    simp only [show ¬(i:Int)< (L.length:Int) - 1 by omega,decide_false,bE]
   ·show some (C9 ((L.length:Int) - 1),s - st)=some ((i:Int),s - st)
    rw [E9 (by omega),hlen]
    congr 2
    omega
  |cons q' r ih=>
   intro p q i st last hg hd h0 hs hb hsum
   obtain ⟨h1,h2,h3,h4,hg⟩:=hg.inv
   ·skip
    have hd1:L.drop i=V2 p q::Y4 (q::q'::r):=by rw [hd,Ez]
    have hd2:=L5 hd1
    have hlt:=P4 (show L.drop (i+1)=V2 q q'::Y4 (q'::r) by rw [hd2,Ez])
    have hstep:Bc L (s - st,(i:Int))=if s - st<V2 p q then some (.out (.inr ((i:Int),s - st)))else some (.go (s - (st+V2 p q),((i+1:Nat):Int))):=by
      unfold Bc
      dsimp only
      rw [E9 (n:=(L.length:Int) - 1) (by omega)]
      simp only [show (i:Int)< (L.length:Int) - 1 by omega,decide_true,bD,W2 hd1,lA]
      by_cases hc:s - st<V2 p q
      ·simp only [hc,decide_true,bD,if_true]
      ·simp only [hc,decide_false,bE,if_false]
       rw [E9 (by omega),E9 (by omega)]
       congr 3
       omega
    rw [Ez,Gi]at hsum
    rw [Bs]
    by_cases hc:st+V2 p q≤s
    ·rw [bG (by omega)]at hstep
     rw [bF hc,M6 hstep]
     exact ih q q' (i+1) (st+V2 p q) _ hg hd2 (by omega) hc hb (by omega)
    ·rw [bF (by omega)]at hstep
     rw [bG hc,F4 hstep]
     exact ⟨_,rfl,rfl⟩
theorem Vn {l:List Spot}(h:Valid l): ∃p q r,l=p::q::r:=by
  match l,h with
  |p::q::r,_=>exact ⟨p,q,r,rfl⟩
  | [p],h=>exact absurd h.two (by simp)
  | [],h=>exact absurd h.two (by simp)
/-- Where an offset lies in a valid curve. -/
structure At (l:List Spot)(s:Int) where
  i:Nat
  p:Spot
  q:Spot
  r:List Spot
  st:Int
  hd:l.drop i=p::q::r
  h0:0≤st
  hs:st≤s
  l1:1000≤V2 p q
  l2:V2 p q≤1048576
  sq:V2 p q*V2 p q=L6 (M7 p q) (M7 p q)
  nx:r≠ []→s<st+V2 p q
  pre:st=Gi ((Y4 l).take i)
theorem QZ {l:List Spot}(h:Valid l):0≤Gi (Y4 l)∧Gi (Y4 l)≤16777216∧Vm 0 (Y4 l)=Gi (Y4 l):=by
  obtain ⟨p,q,r,rfl⟩:=Vn h
  have hg:=ES (q::r) p none h.good
  have hm:=h.most
  have hlen:(Y4 (p::q::r)).length≤15:=by rw [Gm];simp at hm ⊢;omega
  have hs:=Yu (Y4 (p::q::r)) (fun a ha=>by have:=hg a ha;omega)
  have key: ∀l:List Int,(∀a∈l,a≤1048576)→Gi l≤1048576*l.length:=by
    intro l
    induction l with
    |nil=>intro _;simp [Gi]
    |cons a l ih=>intro h;have:=h a (by simp);have:=ih (fun b hb=>h b (by simp [hb]));rw [Gi,lJ];omega
  have:=key (Y4 (p::q::r)) (fun a ha=>(hg a ha).2)
  refine ⟨hs,by omega,?_⟩
  rw [MF _ _ (fun a ha=>by have:=hg a ha;omega) (by omega) (by omega)]
  omega
theorem fY (c:Curve)(h:Valid c.Pts)(s:Int)(hs:0≤s∧s≤9223372036854775807): ∃A:At c.Pts s,Oj c s=some ((A.i:Int),⟨A.p,M7 A.p A.q,V2 A.p A.q,A.st⟩,min (s - A.st) (V2 A.p A.q))∧
    (∀s',s'=min s (Gi (Y4 c.Pts))→thenS (loop (Bc (Y4 c.Pts)) (s',0)) (fun y1=>some (C9 (((Y4 c.Pts).length:Int) - 1),y1)) (fun r=>some r)=some ((A.i:Int),min (s - A.st) (V2 A.p A.q))):=by
  obtain ⟨p,q,r,hp⟩:=Vn h
  have hg:Good none (p::q::r):=by rw [← hp];exact h.good
  have hm:=h.most
  rw [hp]at hm
  simp only [lJ]at hm
  obtain ⟨p',q',r',epre,e1,e2,e3,e4,e5,e6,e7,e8,e9,e10⟩:=UC c.Pts s r p q 0 0 none hg (by rw [hp];rfl) (by omega) hs.1 rfl
  have hfm:(Bs 0 0 p q r s).2=⟨p',M7 p' q',V2 p' q',(Bs 0 0 p q r s).2.start⟩:=by
    generalize (Bs 0 0 p q r s).2=z at*
    cases z
    simp only at e2 e3 e4
    rw [e2,e3,e4]
  refine ⟨⟨(Bs 0 0 p q r s).1,p',q',r',(Bs 0 0 p q r s).2.start,e1,e5,e6,e7,e8,e9,e10,epre⟩,?_,?_⟩
  ·unfold Oj
   have e0:Oq c.Pts=some (Lv 0 0 (p::q::r)):=by rw [JD h,hp]
   rw [e0,lA,XL s hs.1 r p q 0 0 _ none hg (by omega) hs.1 (by omega),lA]
   dsimp only
   rw [e4,E9 (by omega),Gp,Lm,Option.some.injEq,Prod.mk.injEq,Prod.mk.injEq]
   exact ⟨rfl,hfm,by omega⟩
  ·rintro s' rfl
   have ht:=QZ h
   rw [hp]at ht
   have hsame:Bs 0 0 p q r (min s (Gi (Y4 c.Pts)))=Bs 0 0 p q r s∧(min s (Gi (Y4 c.Pts))) - (Bs 0 0 p q r s).2.start=min (s - (Bs 0 0 p q r s).2.start) (V2 p' q'):=by
     have key: ∀(r:List Spot) (p q:Spot) (i:Nat) (st:Int) (last:Option CurveVector),Good last (p::q::r)→st≤s→Bs i st p q r (min s (st+Gi (Y4 (p::q::r))))=Bs i st p q r s∧
      (min s (st+Gi (Y4 (p::q::r)))) - (Bs i st p q r s).2.start=min (s - (Bs i st p q r s).2.start) (Bs i st p q r s).2.l:=by
       intro r
       induction r with
       |nil=>
        intro p q i st last hg hst
        refine ⟨rfl,?_⟩
        have:Gi (Y4 [p,q])=V2 p q:=by rw [QY];simp [Gi]
        rw [this]
        show min s (st+V2 p q) - st=min (s - st) (V2 p q)
        omega
       |cons q' r ih=>
        intro p q i st last hg hst
        obtain ⟨h1,h2,h3,h4,hg'⟩:=hg.inv
        have hnn:=ES (q'::r) q _ hg'
        have hpos:1000≤Gi (Y4 (q::q'::r)):=by
          have h5:=(hg'.inv).2.1
          have:=Yu (Y4 (q'::r)) (fun a ha=>by have:=hnn a (by rw [Ez];simp [ha]);omega)
          rw [Ez,Gi];omega
        rw [Ez,Gi,Bs,Bs]
        by_cases hc:st+V2 p q≤s
        ·rw [bF hc,bF (by omega),show st+ (V2 p q+Gi (Y4 (q::q'::r)))=(st+V2 p q)+Gi (Y4 (q::q'::r)) by omega]
         exact ih q q' (i+1) (st+V2 p q) _ hg' hc
        ·rw [bG hc,bG (by omega)]
         refine ⟨rfl,?_⟩
         dsimp only
         omega
     have:=key r p q 0 0 none hg hs.1
     rw [Int.zero_add,← hp]at this
     refine ⟨this.1,?_⟩
     rw [this.2,hfm]
   have hlen:(Y4 c.Pts).length≤1000:=by rw [hp,Gm];simp;omega
   obtain ⟨y,hy,hy2⟩:=JG (Y4 c.Pts) hlen (min s (Gi (Y4 c.Pts))) r p q 0 0 none hg (by rw [hp];rfl) (by omega) (by rw [hp];omega) (by rw [hp];omega) (by rw [hp];omega)
   rw [Int.sub_zero]at hy
   rw [show ((0:Nat):Int)=0 from rfl]at hy
   rw [hy]
   rw [hsame.1,hsame.2]at hy2
   cases y<;>exact hy2
theorem UD (a b:Int):Ej a b=Pt a b:=rfl
theorem RA {a b:Int}(h:b≠0): ∃q,Ej a b=some q:=by
  unfold Ej QE Xr
  rw [bG h,bG h]
  simp only [lA]
  cases decide (a.tmod b<0)<;>exact ⟨_,rfl⟩
theorem JH (c:Curve)(hl:c.Pts.length≤1000000)(s:Int)(hs: -9223372036854775808≤s∧s≤9223372036854775807): ∃x,Ps c s=some x∧
    (∀_:Valid c.Pts,∃A:At c.Pts (max 0 s),Oj c (He true 0 s)=some ((A.i:Int),⟨A.p,M7 A.p A.q,V2 A.p A.q,A.st⟩,min (max 0 s - A.st) (V2 A.p A.q))∧x=((A.i:Int),min (max 0 s - A.st) (V2 A.p A.q))):=by
  unfold Ps
  rw [show Bz c=some (Dl c) from Qi c hl,We c hl]
  simp only [lA]
  by_cases hv:Ac c.Pts=0
  ·have V:=checkM_zero.1 hv
   obtain ⟨A,h1,h2⟩:=fY c V (max 0 s) (by omega)
   have ht:=QZ V
   have hpl:Dl c=Y4 c.Pts:=bF hv
   obtain ⟨p,q,r,hp⟩:=Vn V
   have hne:(((Y4 c.Pts).length:Int)==0)=false:=by rw [hp,Gm];exact beq_eq_false_iff_ne.2 (by simp;omega)
   rw [hpl]
   simp only [bE,hne]
   refine ⟨_,?_,fun _=>⟨A,by rw [Lm];exact h1,rfl⟩⟩
   rw [ht.2.2,Lm,Gp]
   exact h2 _ (by omega)
  ·have hpl:Dl c= []:=bG hv
   rw [hpl]
   exact ⟨(0,0),rfl,fun h=>absurd (checkM_zero.2 h) hv⟩
theorem jI {l:List Spot}{s:Int}(A:At l s)(hl:l.length≤1000000):C8 l (A.i:Int)=some A.p∧C8 l (C9 ((A.i:Int)+1))=some A.q∧C8 (Y4 l) (A.i:Int)=some (V2 A.p A.q):=by
  have h1:=P4 A.hd
  have h2:=W2 (L5 A.hd)
  refine ⟨W2 A.hd,by rw [E9 (by omega)];simpa using h2,?_⟩
  refine W2 (r:=Y4 (A.q::A.r)) ?_
  rw [← ER,A.hd,Ez]
theorem cO {l:List Spot}{s:Int}(A:At l s)(V:Valid l):Gc A.p=true∧Gc A.q=true:=
  ⟨lX.1 V.ok _ (List.mem_of_mem_drop (i:=A.i) (by rw [A.hd];simp)),lX.1 V.ok _ (List.mem_of_mem_drop (i:=A.i) (by rw [A.hd];simp))⟩
theorem fZ (c:Curve)(hl:c.Pts.length≤1000000)(s:Int)(hs: -9223372036854775808≤s∧s≤9223372036854775807): ∃x,Hm c s=some x∧No c s=some x:=by
  obtain ⟨x,hy,hA⟩:=JH c hl s hs
  unfold Hm No
  rw [Nr c hl,show Bz c=some (Dl c) from Qi c hl,hy]
  simp only [lA]
  by_cases hv:Ac c.Pts=0
  ·have V:=checkM_zero.1 hv
   obtain ⟨A,h1,rfl⟩:=hA V
   obtain ⟨p,q,r,hp⟩:=Vn V
   have hne:(((Y4 c.Pts).length:Int)==0)=false:=by rw [hp,Gm];exact beq_eq_false_iff_ne.2 (by simp;omega)
   have hpl:Dl c=Y4 c.Pts:=bF hv
   obtain ⟨g1,g2,g3⟩:=jI A hl
   obtain ⟨o1,o2⟩:=cO A V
   have hne0:V2 A.p A.q≠0:=by have:=A.l1;omega
   obtain ⟨q1,hq1⟩:=RA (a:=C9 ((M7 A.p A.q).x*min (max 0 s - A.st) (V2 A.p A.q))) hne0
   obtain ⟨q2,hq2⟩:=RA (a:=C9 ((M7 A.p A.q).y*min (max 0 s - A.st) (V2 A.p A.q))) hne0
   rw [hv,h1,hpl]
   simp only [bne_self_eq_false,bE,lA,hne,g1,g2,g3,Di o1 o2,vs,← UD,hq1,hq2]
   exact ⟨_,rfl,rfl⟩
  ·have hpl:Dl c= []:=bG hv
   rw [hpl,show (Ac c.Pts !=0)=true from bne_iff_ne.2 hv]
   exact ⟨⟨0,0⟩,rfl,rfl⟩
theorem Yv {a b:Int}(hb:0<b)(ha:P3 a):Ej a b=some (a / b):=by
  unfold Ej QE Xr
  rw [bG (by omega),bG (by omega)]
  simp only [lA]
  have hle:a.natAbs / b.natAbs≤a.natAbs:=Nat.div_le_self _ _
  have h1:=Int.tmod_lt_of_pos a hb
  have h3:=Int.tdiv_mul_add_tmod a b
  have h4:=Int.ediv_mul_add_emod a b
  have h5:=Int.emod_nonneg a (show b≠0 by omega)
  have h6:=Int.emod_lt_of_pos a hb
  have hq:= @Int.tdiv_eq_ediv a b
  have hm:= @Int.tmod_eq_emod a b
  unfold P3 at ha
  have hab: -9223372036854775808≤a / b∧a / b≤9223372036854775807:=by
    constructor
    ·have:=Int.le_ediv_of_mul_le hb (show -9223372036854775808*b≤a by
       have:=wA (show (1:Int)≤b by omega) (show (0:Int)≤9223372036854775808 by decide);omega)
     exact this
    ·have:=Int.ediv_le_of_le_mul hb (show a≤9223372036854775807*b by
       have:=wA (show (1:Int)≤b by omega) (show (0:Int)≤9223372036854775807 by decide);omega)
     exact this
  by_cases hc:0≤a∨b ∣ a
  ·rw [bF hc,Int.add_zero]at hq
   rw [bF hc,show ((0:Nat):Int)=0 from rfl,Int.sub_zero]at hm
   rw [hq,hm,show decide (a % b<0)=false from bA (by omega),show IntKind.i64.wrap (a / b)=a / b from E9 hab];rfl
  ·rw [bG hc,Int.sign_eq_one_of_pos hb]at hq
   rw [bG hc,Int.natAbs_of_nonneg (by omega)]at hm
   have hneg:a / b<0:=by
     rcases Int.lt_or_le (a / b) 0 with q|q
     ·exact q
     ·have:=wB q (show 0≤b by omega)
      exact absurd (.inl (by omega)) hc
   rw [hq,hm,show decide (a % b - b<0)=true from l9 (by omega),show IntKind.i64.wrap (a / b+1)=a / b+1 from E9 (by omega),E9 (by omega)]
   simp only [bD]
   congr 1
   omega
/-- The place of an offset, by the piece in which it lies. -/
theorem RB {c:Curve}(V:Valid c.Pts)(hl:c.Pts.length≤1000000){s:Int}(hs:P3 s): ∃A:At c.Pts (max 0 s),Hm c s=some ⟨A.p.X+ (M7 A.p A.q).x*min (max 0 s - A.st) (V2 A.p A.q) / V2 A.p A.q,A.p.Y+ (M7 A.p A.q).y*min (max 0 s - A.st) (V2 A.p A.q) / V2 A.p A.q⟩:=by
  obtain ⟨x,hy,hA⟩:=JH c hl s hs
  obtain ⟨A,h1,rfl⟩:=hA V
  refine ⟨A,?_⟩
  unfold Hm
  rw [Nr c hl,checkM_zero.2 V]
  simp only [lA,bne_self_eq_false,bE,h1]
  obtain ⟨o1,o2⟩:=cO A V
  have hv:=Iw o1 o2
  have a1:=A.l1
  have a2:=A.l2
  have a3:=A.hs
  have ho:=okS_iff.1 o1
  have ho2:=okS_iff.1 o2
  generalize ht:min (max 0 s - A.st) (V2 A.p A.q)=t
  have ht0:0≤t∧t≤1048576∧t≤V2 A.p A.q:=by omega
  obtain ⟨v1,v2,v3,v4⟩:=hv
  have m1:=Xv ⟨v1,v2⟩ (show -1048576≤t∧t≤1048576 by omega)
  have m2:=Xv ⟨v3,v4⟩ (show -1048576≤t∧t≤1048576 by omega)
  have hdiv: ∀z, -33554432≤z→z≤33554432→ -33554432≤z*t / V2 A.p A.q∧z*t / V2 A.p A.q≤33554432:=by
    intro z z1 z2
    constructor
    ·refine Int.le_ediv_of_mul_le (by omega) ?_
     have e1:=wA ht0.2.2 (show (0:Int)≤33554432 by decide)
     have e2:=Int.mul_le_mul_of_nonneg_right z1 ht0.1
     omega
    ·refine Int.ediv_le_of_le_mul (by omega) ?_
     have e1:=wA ht0.2.2 (show (0:Int)≤33554432 by decide)
     have e2:=Int.mul_le_mul_of_nonneg_right z2 ht0.1
     omega
  have d1:=hdiv _ v1 v2
  have d2:=hdiv _ v3 v4
  rw [E9 (n:=(M7 A.p A.q).x*t) (by omega),E9 (n:=(M7 A.p A.q).y*t) (by omega),Yv (by omega) (by unfold P3;omega),lA,Yv (by omega) (by unfold P3;omega),lA,
   E9 (n:=A.p.X+_) (by omega),E9 (n:=A.p.Y+_) (by omega)]
def Om (v w:CurveVector):Int:=v.x*w.y - v.y*w.x
def jJ (x:Int):Int:=if x>0 then 1 else if x<0 then -1 else 0
theorem XN (x:Int):(0<x∧jJ x=1)∨(x<0∧jJ x= -1)∨(x=0∧jJ x=0):=by
  unfold jJ
  split
  ·omega
  ·split<;>omega
theorem RC {v w:CurveVector}(hv:OV v)(hw:OV w): -2251799813685248≤Om v w∧Om v w≤2251799813685248∧(-1125899906842624≤v.x*w.y∧v.x*w.y≤1125899906842624)∧ -1125899906842624≤v.y*w.x∧v.y*w.x≤1125899906842624:=by
  obtain ⟨v1,v2,v3,v4⟩:=hv
  obtain ⟨w1,w2,w3,w4⟩:=hw
  have m1:=Xv ⟨v1,v2⟩ ⟨w3,w4⟩
  have m2:=Xv ⟨v3,v4⟩ ⟨w1,w2⟩
  unfold Om
  omega
theorem JI {v w:CurveVector}(hv:OV v)(hw:OV w):Cz v w=some (Om v w):=by
  have:=RC hv hw
  unfold Om at this
  unfold Cz Om
  rw [E9 (n:=v.x*w.y) (by omega),E9 (n:=v.y*w.x) (by omega),E9 (by omega)]
theorem JJ {v w:CurveVector}(hv:OV v)(hw:OV w):Pv (vs v) (vs w)=some (Om v w):=by
  have:=RC hv hw
  unfold Om at this
  unfold Pv Om vs
  dsimp only
  rw [E9 (n:=v.x*w.y) (by omega),E9 (n:=v.y*w.x) (by omega),E9 (by omega)]
def Wf (p q r:Spot):Int:=cond (Gc p&&Gc q&&Gc r) (jJ (Om (M7 p q) (M7 p r))) 0
theorem Jp (p q r:Spot):Wf p q r=1∨Wf p q r= -1∨Wf p q r=0:=by
  unfold Wf
  have:=XN (Om (M7 p q) (M7 p r))
  cases Gc p&&Gc q&&Gc r
  ·simp
  ·simp only [bD];omega
theorem LC (p q r:Spot):Jh p q r=some (Wf p q r):=by
  unfold Jh Wf
  rw [Lj [p,q,r] (by simp)]
  simp only [List.all_cons,List.all_nil,Bool.and_true,lA,Bool.and_assoc]
  cases hp:Gc p
  ·rfl
  cases hq:Gc q
  ·rfl
  cases hr:Gc r
  ·rfl
  simp only [bO,bL,bE,bD,Lk hp hq,Lk hp hr,lA,JI (Iw hp hq) (Iw hp hr)]
  unfold Vj jJ
  generalize Om (M7 p q) (M7 p r)=x
  rw [CS,CS]
  split
  ·rfl
  ·split<;>rfl
theorem LD (p q r:Spot):Jl p q r=some (Wf p q r):=by
  unfold Jl Wf
  simp only [Nq,lA]
  cases hp:Gc p
  ·rfl
  cases hq:Gc q
  ·rfl
  cases hr:Gc r
  ·rfl
  simp only [bO,bL,bM,Bool.or_self,bE,bD,Di hp hq,Di hp hr,lA,JJ (Iw hp hq) (Iw hp hr)]
  unfold jJ
  generalize Om (M7 p q) (M7 p r)=x
  rw [CS,CS]
  split
  ·rfl
  ·split<;>rfl
def Tz (p q:Spot):Int:=cond (Gc p&&Gc q) (L6 (M7 p q) (M7 p q)) 0
theorem JK (p q:Spot):Pp p q=some (Tz p q):=by
  unfold Pp Tz
  rw [Lj [p,q] (by simp)]
  simp only [List.all_cons,List.all_nil,Bool.and_true,lA]
  cases hp:Gc p
  ·rfl
  cases hq:Gc q
  ·rfl
  simp only [bO,bL,bE,bD,Lk hp hq,lA,Qw (Iw hp hq) (Iw hp hq)]
theorem JL (p q:Spot):Pu p q=some (Tz p q):=by
  unfold Pu Tz
  simp only [Nq,lA]
  cases hp:Gc p
  ·rfl
  cases hq:Gc q
  ·rfl
  simp only [bO,bL,bM,Bool.or_self,bE,bD,Di hp hq,lA,Qx (Iw hp hq) (Iw hp hq)]
def RD (p q r:Spot):Bool:=(((decide (min p.X q.X≤r.X))&& (decide (r.X≤max p.X q.X)))&& (decide (min p.Y q.Y≤r.Y)))&& (decide (r.Y≤max p.Y q.Y))
theorem ET (p q r:Spot):Cf p q r=some (RD p q r):=by unfold Cf RD;simp only [Gp,Lm]
theorem EU (p q r:Spot):Ci p q r=some (RD p q r):=by unfold Ci RD;simp only [Gp,Lm]
def blk (s1 s2 s3 s4:Int)(b1 b2 b3 b4:Bool):Bool:=(decide (s1*s2<0)&&decide (s3*s4<0))||(s1==0&&b1)||(s2==0&&b2)||(s3==0&&b3)||(s4==0&&b4)
def Ti (p q r s:Spot):Bool:=(Gc p&&Gc q&&Gc r&&Gc s)&&blk (Wf p q r) (Wf p q s) (Wf r s p) (Wf r s q) (RD p q r) (RD p q s) (RD r s p) (RD r s q)
theorem DN {a b:Int}(ha:a=1∨a= -1∨a=0)(hb:b=1∨b= -1∨b=0):C9 (a*b)=a*b:=by
  rcases ha with rfl|rfl|rfl<;>rcases hb with rfl|rfl|rfl<;>exact E9 (by omega)
theorem RE (c z1 z2 z3 z4 b1 b2 b3 b4:Bool):cond c (some true) ((cond z1 (some b1) (some default)).bind fun v6=>((cond ((!(z1&&v6))&&z2) (some b2) (some default))).bind fun v7=>((cond ((!((z1&&v6)||(z2&&v7)))&&z3) (some b3) (some default))).bind fun v8=>((cond ((!(((z1&&v6)||(z2&&v7))||(z3&&v8)))&&z4) (some b4) (some default))).bind fun v9=>some ((((z1&&v6)||(z2&&v7))||(z3&&v8))||(z4&&v9)))=some (c||(z1&&b1)||(z2&&b2)||(z3&&b3)||(z4&&b4)):=by
  cases c<;>cases z1<;>cases b1<;>cases z2<;>cases b2<;>cases z3<;>cases b3<;>cases z4<;>cases b4<;>rfl
theorem Wg (p q r s:Spot):Kc p q r s=some (Ti p q r s):=by
  unfold Kc Ti blk
  rw [Lj [p,q,r,s] (by simp)]
  simp only [List.all_cons,List.all_nil,Bool.and_true,lA,LC,ET,DN (Jp p q r) (Jp p q s),DN (Jp r s p) (Jp r s q),RE]
  cases Gc p<;>cases Gc q<;>cases Gc r<;>cases Gc s<;>rfl
theorem GS (p q r s:Spot):Np p q r s=some (Ti p q r s):=by
  unfold Np Ti blk
  simp only [Nq,lA,LD,EU,DN (Jp p q r) (Jp p q s),DN (Jp r s p) (Jp r s q),RE]
  cases Gc p<;>cases Gc q<;>cases Gc r<;>cases Gc s<;>rfl
def Wh (p q:Spot)(n:Int):Bool:=(Gc p&&Gc q)&& (decide (n≥0)&&decide (n≤33554432)&&decide (Tz p q≤n*n))
theorem AJ (p q:Spot)(n:Int):Ok p q n=some (Wh p q n):=by
  unfold Ok Wh
  rw [Lj [p,q] (by simp)]
  simp only [List.all_cons,List.all_nil,Bool.and_true,lA,JK]
  cases Gc p&&Gc q
  ·rfl
  by_cases h:n≥0
  case neg=>simp only [h,decide_false];rfl
  by_cases k:n≤33554432
  case neg=>simp only [h,k,decide_false];rfl
  have:=Xv (show -33554432≤n∧n≤33554432 by omega) (show -33554432≤n∧n≤33554432 by omega)
  rw [E9 (n:=n*n) (by omega)]
  simp only [h,k,decide_true,bO,bD,lA,bH]
theorem VV {v t l:Int}(hl:0<l)(ht:0≤t∧t≤l):min 0 v≤v*t / l∧v*t / l≤max 0 v:=by
  rcases Int.le_total 0 v with q|q
  ·have h1:=wB q ht.1
   have h2:=wA ht.2 q
   have h3:=Int.ediv_nonneg h1 (show 0≤l by omega)
   have h4:=Int.ediv_le_of_le_mul hl h2
   omega
  ·have h1:=wB (show 0≤ -v by omega) ht.1
   have h2:=wA ht.2 (show 0≤ -v by omega)
   rw [Int.neg_mul]at h1 h2
   rw [Int.neg_mul]at h2
   have h3:=Int.le_ediv_of_mul_le hl (show v*l≤v*t by omega)
   have h4:=Int.ediv_le_of_le_mul hl (show v*t≤0*l by omega)
   omega
theorem cP {p q:Spot}(hp:Gc p=true)(hq:Gc q=true){t l:Int}(hl:0<l)(ht:0≤t∧t≤l):Gc ⟨p.X+ (M7 p q).x*t / l,p.Y+ (M7 p q).y*t / l⟩=true:=by
  have h1:=okS_iff.1 hp
  have h2:=okS_iff.1 hq
  have p1:=VV (v:=(M7 p q).x) hl ht
  have p2:=VV (v:=(M7 p q).y) hl ht
  have x1:(M7 p q).x=q.X - p.X:=rfl
  have x2:(M7 p q).y=q.Y - p.Y:=rfl
  rw [okS_iff]
  dsimp only
  omega
/-! ### Loops that look for the first error -/
def G4 {α β:Type}(g:Nat→α→Option β):Nat→List α→Option β
  |_,[]=>none
  |i,a::r=>match g i a with
   |some e=>some e
   |none=>G4 g (i+1) r
def EV {β:Type}:Option β→Sum Unit β
  |some e=> .inr e
  |none=> .inl ()
theorem U1 {α β:Type}(l:List α)(F:Int→Option (Stp Int (Sum Unit β)))(g:Nat→α→Option β)(hF: ∀(i:Nat) a,l[i]? =some a→F (i:Int)=some (match g i a with|some e=> .out (.inr e)|none=> .go ((i+1:Nat):Int)))(h0:F (l.length:Int)=some (.out (.inl ()))):
    loop F 0=some (EV (G4 g 0 l)):=by
  have key: ∀(r:List α) (i:Nat),l.drop i=r→i≤l.length→loop F (i:Int)=some (EV (G4 g i r)):=by
    intro r
    induction r with
    |nil=>
     intro i hi hil
     have:i=l.length:=by have:=List.drop_eq_nil_iff.1 hi;omega
     subst this
     exact F4 h0
    |cons a r ih=>
     intro i hi hil
     have hlt:i<l.length:=by
       rcases Nat.lt_or_ge i l.length with q|q
       ·exact q
       ·rw [List.drop_eq_nil_of_le q]at hi;cases hi
     have ha:l[i]? =some a:=by have:=congrArg (fun z=>z[0]?) hi;simpa using this
     have hr:l.drop (i+1)=r:=by have:=congrArg (fun z=>z.drop 1) hi;simpa using this
     have hs:=hF i a ha
     unfold G4
     cases hg:g i a with
     |some e=>rw [hg]at hs;exact F4 hs
     |none=>rw [hg]at hs;rw [M6 hs];exact ih (i+1) hr (by omega)
  have:=key l 0 rfl (by omega)
  exact this
theorem firstE_none {α β:Type}{g:Nat→α→Option β}: ∀{l:List α} {i:Nat},G4 g i l=none↔∀(j:Nat) a,l[j]? =some a→g (i+j) a=none
  | [],i=>by simp [G4]
  |a::r,i=>by
   unfold G4
   cases h:g i a with
   |some e=>
    constructor
    ·intro h';cases h'
    ·intro h';have:=h' 0 a rfl;rw [Nat.add_zero,h]at this;cases this
   |none=>
    dsimp only
    rw [firstE_none (l:=r)]
    constructor
    ·intro h' j b hj
     cases j with
     |zero=>cases hj;exact h
     |succ j=>have:=h' j b hj;rwa [show i+1+j=i+ (j+1) by omega]at this
    ·intro h' j b hj
     have:=h' (j+1) b hj
     rwa [show i+ (j+1)=i+1+j by omega]at this
/-! ### Numbers -/
def Ua (n a b:Int):Bool:=decide (a≤n)&&decide (n≤b)
theorem On (n a b:Int):Aq n a b=some (Ua n a b):=rfl
theorem Sn (n a b:Int):By n a b=some (Ua n a b):=rfl
def Qj (kind:Int):Int×Int×Int:=if kind=1 then (2000,30,90)else if kind=2 then (1000,20,60)else if kind=3 then (300,100,300)else (0,0,0)
theorem EW (k:Int):Ec k=some (Qj k):=by
  unfold Ec Qj
  by_cases h:k<0∨k≥4
  ·rw [show ((decide (k<0))||(decide (k≥4)))=true by simpa using h,bD,bG (by omega),bG (by omega),bG (by omega)]
  ·rw [show ((decide (k<0))||(decide (k≥4)))=false by rw [bP];simpa using h,bE]
   obtain ⟨h1,h2⟩:=not_or.1 h
   rcases (show k=0∨k=1∨k=2∨k=3 by omega)with rfl|rfl|rfl|rfl<;>rfl
theorem BJ (k:Int):Gy k=some (Qj k):=by
  unfold Gy Qj
  by_cases h1:k=1
  ·subst h1;rfl
  ·by_cases h2:k=2
   ·subst h2;rfl
   ·by_cases h3:k=3
    ·subst h3;rfl
    ·rw [bG h1,bG h2,bG h3]
     rw [show (k==1)=false by simpa using h1,show (k==2)=false by simpa using h2,show (k==3)=false by simpa using h3];rfl
theorem SE {n:Int}(h: -9223372036854775808≤n∧n≤9223372036854775807):C9 n=n:=Go.IntWalk.i64_in n h
theorem E7 {α:Type}{l:List α}{i:Nat}{a:α}(h:l[i]? =some a):C8 l (i:Int)=some a:=by
  unfold C8;rw [bF (by omega),Int.toNat_natCast];exact h
theorem K6 {α:Type}{l:List α}{i:Nat}{a:α}(h:l[i]? =some a):i<l.length:=(lH.1 h).1
theorem GX {α:Type}(c:Bool)(a b:α):cond c (some a) (some b)=some (cond c a b):=by cases c<;>rfl
def Ck (high:Int):Int→List Int→Bool
  |_,[]=>true
  |low,n::r=>decide (low≤n)&&decide (n<high)&&Ck high (n+1) r
theorem EX (l:List Int)(low high:Int)(hl:l.length≤1000000)(hh:high≤1000000000)(h0:0≤low):Ar l low high=some (Ck high low l):=by
  have key: ∀(r:List Int) (i:Nat) (lo:Int),0≤lo→l.drop i=r→i≤l.length→loop (Bl l high) (lo,(i:Int))=some (if Ck high lo r then .inl ()else .inr false):=by
    intro r
    induction r with
    |nil=>
     intro i lo _ hi hil
     have:=S6 hi
     refine F4 ?_
     unfold Bl
     dsimp only
     rw [show decide ((i:Int)< (l.length:Int))=false from bA (by omega)];rfl
    |cons n r ih=>
     intro i lo hlo hi hil
     have hlt:=P4 hi
     have hs:Bl l high (lo,(i:Int))=some (if decide (lo≤n)&&decide (n<high)then .go (n+1,((i+1:Nat):Int))else .out (.inr false)):=by
       unfold Bl
       dsimp only
       rw [show decide ((i:Int)< (l.length:Int))=true from l9 (by omega),W2 hi,bD,lA,SE (n:=(i:Int)+1) (by omega)]
       by_cases q:lo≤n∧n<high
       ·rw [show ((decide (n<lo))||(decide (n≥high)))=false by rw [bP];simp;omega,bE,SE (n:=n+1) (by omega),bF (by simpa using q)];rfl
       ·rw [show ((decide (n<lo))||(decide (n≥high)))=true by simp;omega,bD,bG (by simpa using q)]
     unfold Ck
     cases q:(decide (lo≤n)&&decide (n<high))
     ·rw [q]at hs;rw [F4 hs];rfl
     ·rw [q]at hs
      simp only [bJ,bB]at q
      rw [M6 hs,ih (i+1) (n+1) (by omega) (L5 hi) (by omega)];rfl
  unfold Ar
  have:=key l 0 low h0 rfl (by omega)
  rw [show ((0:Nat):Int)=0 from rfl]at this
  rw [this]
  cases Ck high low l<;>rfl
theorem BK (l:List Int)(low high:Int)(hl:l.length≤1000000):Ev l low high=some (Ck high low l):=by
  have key: ∀(r:List Int) (i:Nat) (lo:Int),low≤lo→(i=0→lo=low)→(0<i→l[i - 1]? =some (lo - 1))→l.drop i=r→i≤l.length→loop (Ak l low high) (i:Int)=some (if Ck high lo r then .inl ()else .inr false):=by
    intro r
    induction r with
    |nil=>
     intro i lo _ _ _ hi hil
     have:=S6 hi
     refine F4 ?_
     unfold Ak
     rw [show decide ((i:Int)< (l.length:Int))=false from bA (by omega)];rfl
    |cons n r ih=>
     intro i lo hlo h0 h1 hi hil
     have hlt:=P4 hi
     have hn:l[i]? =some n:=by have:=congrArg (fun z=>z[0]?) hi;simpa using this
     have hs:Ak l low high (i:Int)=some (if decide (lo≤n)&&decide (n<high)then .go ((i+1:Nat):Int)else .out (.inr false)):=by
       unfold Ak
       rw [show decide ((i:Int)< (l.length:Int))=true from l9 (by omega),W2 hi,bD,lA,GX,lA,GX,lA,SE (n:=(i:Int)+1) (by omega)]
       by_cases q1:n<low
       ·rw [l9 q1,bG (by simp;omega)];rfl
       ·rw [bA q1]
        simp only [bM,bD,bN]
        by_cases q2:n≥high
        ·rw [l9 q2,bG (by simp;omega)];rfl
        ·rw [bA q2]
         simp only [bM,bH,bN]
         by_cases q3:(i:Int)>0
         ·have e:C8 l (C9 ((i:Int) - 1))=some (lo - 1):=by
            rw [SE (n:=(i:Int) - 1) (by omega),show (i:Int) - 1=((i - 1:Nat):Int) by omega]
            exact E7 (h1 (by omega))
          rw [l9 q3,bD,bD,e,lA,bH]
          by_cases q4:n≤lo - 1
          ·rw [l9 q4,bG (by simp;omega)];rfl
          ·rw [bA q4,bF (by simp;omega)];rfl
         ·have:lo=low:=h0 (by omega)
          rw [bA q3,bE,lA,bI,bF (by simp;omega)];rfl
     unfold Ck
     cases q:(decide (lo≤n)&&decide (n<high))
     ·rw [q]at hs;rw [F4 hs];rfl
     ·rw [q]at hs
      simp only [bJ,bB]at q
      rw [M6 hs,ih (i+1) (n+1) (by omega) (fun z=>by omega) (fun _=>by rw [Nat.add_sub_cancel,hn];congr 1;omega) (L5 hi) (by omega)];rfl
  unfold Ev
  have:=key l 0 low (Int.le_refl _) (fun _=>rfl) (fun z=>by omega) rfl (by omega)
  rw [show ((0:Nat):Int)=0 from rfl]at this
  rw [this]
  cases Ck high low l<;>rfl
noncomputable def Qy (c:Curve):Int:=Vm 0 (Dl c)
theorem gA {m:Map}{i:Nat}{l:Lane}(h:m.Lanes[i]? =some l)(hl:l.Curve_.Pts.length≤1000000):Bn m (i:Int)=some (Qy l.Curve_):=by
  unfold Bn
  rw [E7 h,lA,Wd _ hl];rfl
/-- The lists of a map are of bearable lengths. -/
structure Bear (m:Map):Prop where
  lanes:m.Lanes.length≤1000000
  pts: ∀l∈m.Lanes,l.Curve_.Pts.length≤1000000∧l.Next.length≤1000000
noncomputable def laneE (n:Nat)(i:Nat)(l:Lane):Option Int:=
  if (Qj l.Kind).1=0 then some 4
  else if Ac l.Curve_.Pts≠0 then some (Ac l.Curve_.Pts)
  else if (Ua l.Half 200 4000&&Ua l.Limit 1 (Qj l.Kind).1)=false then some 2
  else if 3<l.Next.length then some 8
  else if Ck n (i+1) l.Next=false then some 11 else none
theorem cQ {m:Map}(B:Bear m):T5 ⟨m⟩=some ((G4 (laneE m.Lanes.length) 0 m.Lanes).getD 0):=by
  have h:=U1 m.Lanes (P5 ⟨m⟩) (laneE m.Lanes.length) (fun i l hl=>by
    have hi:=K6 hl
    have hb:=B.lanes
    obtain ⟨p1,p2⟩:=B.pts l (lF hl)
    unfold P5 laneE
    dsimp only
    rw [show decide ((i:Int)< (m.Lanes.length:Int))=true from l9 (by omega),E7 hl,bD,lA,EW,lA,Nr _ p1,lA,On,On,lA,GX,lA,SE (n:=(i:Int)+1) (by omega),EX _ _ _ p2 (by omega) (by omega),lA]
    by_cases h1:(Qj l.Kind).1=0
    ·rw [bF h1,show ((Qj l.Kind).1==0)=true by simpa using h1];rfl
    ·rw [bG h1,show ((Qj l.Kind).1==0)=false by simpa using h1,bE]
     by_cases h2:Ac l.Curve_.Pts≠0
     ·rw [bF h2,show (Ac l.Curve_.Pts !=0)=true by simpa using h2];rfl
     ·rw [bG h2,show (Ac l.Curve_.Pts !=0)=false by simpa using h2,bE]
      cases Ua l.Half 200 4000
      ·rfl
      ·cases Ua l.Limit 1 (Qj l.Kind).1
       ·rfl
       ·simp only [bL,bM,bD,bE,bN,bO]
        rw [bG (by decide)]
        by_cases h3:3<l.Next.length
        ·rw [bF h3,show decide ((l.Next.length:Int)>3)=true from l9 (by omega)];rfl
        ·rw [bG h3,show decide ((l.Next.length:Int)>3)=false from bA (by omega),bE]
         cases Ck (m.Lanes.length:Int) ((i:Int)+1) l.Next<;>rfl) (by
    unfold P5
    dsimp only
    rw [show decide ((m.Lanes.length:Int)< (m.Lanes.length:Int))=false from bA (by omega)];rfl)
  unfold T5
  rw [h]
  cases G4 (laneE m.Lanes.length) 0 m.Lanes<;>rfl
theorem cR (k:Int):((decide (k<1))||(decide (k>3)))=decide ((Qj k).1=0):=by
  unfold Qj
  by_cases h1:k=1
  ·subst h1;rfl
  ·by_cases h2:k=2
   ·subst h2;rfl
   ·by_cases h3:k=3
    ·subst h3;rfl
    ·rw [bG h1,bG h2,bG h3]
     simp only [decide_true,bK,bB]
     omega
theorem cS {m:Map}(B:Bear m){i:Nat}{l:Lane}(hl:m.Lanes[i]? =some l):Ho m (i:Int)=some ((laneE m.Lanes.length i l).getD 0):=by
  have hi:=K6 hl
  have hb:=B.lanes
  obtain ⟨p1,p2⟩:=B.pts l (lF hl)
  unfold Ho laneE
  rw [E7 hl,lA,cR,Yt _ p1,lA,BJ,lA,Sn,Sn,lA,GX,lA,SE (n:=(i:Int)+1) (by omega),BK _ _ _ p2,lA]
  by_cases h1:(Qj l.Kind).1=0
  ·rw [bF h1,l9 h1];rfl
  ·rw [bG h1,bA h1,bE]
   by_cases h2:Ac l.Curve_.Pts≠0
   ·rw [bF h2,show (Ac l.Curve_.Pts !=0)=true by simpa using h2];rfl
   ·rw [bG h2,show (Ac l.Curve_.Pts !=0)=false by simpa using h2,bE]
    cases Ua l.Half 200 4000
    ·rfl
    ·cases Ua l.Limit 1 (Qj l.Kind).1
     ·rfl
     ·simp only [bL,bM,bD,bE,bN,bO]
      rw [bG (by decide)]
      by_cases h3:3<l.Next.length
      ·rw [bF h3,show decide ((l.Next.length:Int)>3)=true from l9 (by omega)];rfl
      ·rw [bG h3,show decide ((l.Next.length:Int)>3)=false from bA (by omega),bE]
       cases Ck (m.Lanes.length:Int) ((i:Int)+1) l.Next<;>rfl
theorem JM {n i:Nat}{l:Lane}{e:Int}(h:laneE n i l=some e):e≠0:=by
  unfold laneE at h
  split at h
  ·cases h;decide
  ·split at h
   ·rename_i h2;cases h;exact h2
   ·split at h
    ·cases h;decide
    ·split at h
     ·cases h;decide
     ·split at h
      ·cases h;decide
      ·cases h
theorem RF {m:Map}(B:Bear m):loop (De m) 0=some (EV (G4 (laneE m.Lanes.length) 0 m.Lanes)):=
  U1 m.Lanes (De m) (laneE m.Lanes.length) (fun i l hl=>by
   have hi:=K6 hl
   have hb:=B.lanes
   unfold De
   rw [show decide ((i:Int)< (m.Lanes.length:Int))=true from l9 (by omega),cS B hl,bD,lA,SE (n:=(i:Int)+1) (by omega)]
   cases h:laneE m.Lanes.length i l with
   |none=>rfl
   |some e=>
    rw [Option.getD_some,show (e !=0)=true by simpa using JM h];rfl) (by
   unfold De
   rw [show decide ((m.Lanes.length:Int)< (m.Lanes.length:Int))=false from bA (by omega)];rfl)
theorem Rj {high:Int}: ∀{l:List Int} {low:Int},Ck high low l=true→∀k∈l,low≤k∧k<high
  | [],_,_,k,hk=>by cases hk
  |n::r,low,h,k,hk=>by
   unfold Ck at h
   simp only [bJ,bB]at h
   rcases lR.1 hk with rfl|hk
   ·exact h.1
   ·have:=Rj h.2 k hk
    omega
/-- What a lane is that has no error of its own. -/
structure LaneOK (n i:Nat)(l:Lane):Prop where
  kind:(Qj l.Kind).1≠0
  curve:Ac l.Curve_.Pts=0
  half:Ua l.Half 200 4000=true
  limit:Ua l.Limit 1 (Qj l.Kind).1=true
  few:l.Next.length≤3
  next:Ck n (i+1) l.Next=true
theorem UE {n i:Nat}{l:Lane}(h:laneE n i l=none):LaneOK n i l:=by
  unfold laneE at h
  split at h
  ·cases h
  ·rename_i h1
   split at h
   ·cases h
   ·rename_i h2
    split at h
    ·cases h
    ·rename_i h3
     split at h
     ·cases h
     ·rename_i h4
      split at h
      ·cases h
      ·rename_i h5
       simp only [Bool.not_eq_false,bJ]at h3
       exact ⟨h1,Decidable.not_not.1 h2,h3.1,h3.2,by omega,by simpa using h5⟩
theorem Yw {m:Map}(h:G4 (laneE m.Lanes.length) 0 m.Lanes=none){i:Nat}{l:Lane}(hl:m.Lanes[i]? =some l):LaneOK m.Lanes.length i l:=by
  have:=firstE_none.1 h i l hl
  rw [bX]at this
  exact UE this
theorem EY {l:List Spot}(h:Ac l=0):2≤l.length:=by
  unfold Ac at h
  split at h
  ·cases h
  ·omega
def AL (l:List Spot):Spot:=l.headD ⟨0,0⟩
def Wi (l:List Spot):Spot:=l.getLastD ⟨0,0⟩
theorem MG {l:List Spot}(h:2≤l.length):C8 l 0=some (AL l):=by
  cases l with
  |nil=>simp at h
  |cons a r=>rfl
theorem MH {l:List Spot}(h:2≤l.length)(hl:l.length≤1000000):C8 l (C9 ((l.length:Int) - 1))=some (Wi l):=by
  rw [SE (by omega),show (l.length:Int) - 1=((l.length - 1:Nat):Int) by omega]
  refine E7 ?_
  unfold Wi
  rw [List.getLastD_eq_getLast?,List.getLast?_eq_getElem?]
  rw [lG (by omega)];rfl
def RG (a b:Spot):Bool:=a.X==b.X&& (a.Y==b.Y&&true)
def BL (m:Map)(l:Lane)(_:Nat)(k:Int):Option Int:=
  match m.Lanes[k.toNat]? with
  |some n=>if n.Kind≠l.Kind then some 4 else if RG (AL n.Curve_.Pts) (Wi l.Curve_.Pts)=false then some 3 else none
  |none=>none
def nextE (m:Map)(_:Nat)(l:Lane):Option Int:=G4 (BL m l) 0 l.Next
theorem JN {m:Map}(B:Bear m)(H:G4 (laneE m.Lanes.length) 0 m.Lanes=none){i:Nat}{l:Lane}(hl:m.Lanes[i]? =some l){j:Nat}{k:Int}(hk:l.Next[j]? =some k):
    ∃n,C8 m.Lanes k=some n∧m.Lanes[k.toNat]? =some n∧2≤n.Curve_.Pts.length∧n.Curve_.Pts.length≤1000000:=by
  have L:=Yw H hl
  have hb:=Rj L.next k (lF hk)
  have hlt:k.toNat<m.Lanes.length:=by omega
  refine ⟨m.Lanes[k.toNat],?_,lG hlt,EY (Yw H (lG hlt)).curve,(B.pts _ (List.getElem_mem hlt)).1⟩
  unfold C8
  rw [bF (by omega),lG hlt]
theorem XO {m:Map}{l:Lane}{j:Nat}{k e:Int}(h:BL m l j k=some e):e≠0:=by
  unfold BL at h
  split at h
  ·split at h
   ·cases h;decide
   ·split at h
    ·cases h;decide
    ·cases h
  ·cases h
theorem MI {m:Map}(B:Bear m)(H:G4 (laneE m.Lanes.length) 0 m.Lanes=none){i:Nat}{l:Lane}(hl:m.Lanes[i]? =some l):
    loop (W3 ⟨m⟩ l (Wi l.Curve_.Pts)) 0=some (EV (nextE m i l))∧loop (Al m l) 0=some (EV (nextE m i l)):=by
  have L:=Yw H hl
  obtain ⟨p1,p2⟩:=B.pts l (lF hl)
  constructor
  ·refine U1 l.Next _ (BL m l) (fun j k hk=> ?_) ?_
   ·have hj:=K6 hk
    obtain ⟨n,g1,g2,g3,g4⟩:=JN B H hl hk
    unfold W3 BL
    dsimp only
    rw [show decide ((j:Int)< (l.Next.length:Int))=true from l9 (by omega),E7 hk,bD,lA,g1,lA,lA,MG g3,lA,SE (n:=(j:Int)+1) (by omega),g2]
    dsimp only
    rw [show ((AL n.Curve_.Pts).X==(Wi l.Curve_.Pts).X&& ((AL n.Curve_.Pts).Y==(Wi l.Curve_.Pts).Y&&true))=RG (AL n.Curve_.Pts) (Wi l.Curve_.Pts) from rfl]
    by_cases h1:n.Kind≠l.Kind
    ·rw [bF h1,show (n.Kind !=l.Kind)=true by simpa using h1];rfl
    ·rw [bG h1,show (n.Kind !=l.Kind)=false by simpa using h1]
     cases RG (AL n.Curve_.Pts) (Wi l.Curve_.Pts)<;>rfl
   ·unfold W3
    rw [show decide ((l.Next.length:Int)< (l.Next.length:Int))=false from bA (by omega)];rfl
  ·refine U1 l.Next _ (BL m l) (fun j k hk=> ?_) ?_
   ·have hj:=K6 hk
    obtain ⟨n,g1,g2,g3,g4⟩:=JN B H hl hk
    unfold Al BL
    rw [show decide ((j:Int)< (l.Next.length:Int))=true from l9 (by omega),E7 hk,bD,lA,g1,lA,MG g3,lA,MH (EY L.curve) p1,lA,SE (n:=(j:Int)+1) (by omega),g2]
    dsimp only
    rw [show ((AL n.Curve_.Pts).X==(Wi l.Curve_.Pts).X&& ((AL n.Curve_.Pts).Y==(Wi l.Curve_.Pts).Y&&true))=RG (AL n.Curve_.Pts) (Wi l.Curve_.Pts) from rfl]
    by_cases h1:n.Kind≠l.Kind
    ·rw [bF h1,show (n.Kind !=l.Kind)=true by simpa using h1];rfl
    ·rw [bG h1,show (n.Kind !=l.Kind)=false by simpa using h1]
     cases RG (AL n.Curve_.Pts) (Wi l.Curve_.Pts)<;>rfl
   ·unfold Al
    rw [show decide ((l.Next.length:Int)< (l.Next.length:Int))=false from bA (by omega)];rfl
theorem MJ {m:Map}(B:Bear m)(H:G4 (laneE m.Lanes.length) 0 m.Lanes=none):
    T1 ⟨m⟩=some ((G4 (nextE m) 0 m.Lanes).getD 0)∧Hp m=some ((G4 (nextE m) 0 m.Lanes).getD 0):=by
  have hb:=B.lanes
  constructor
  ·have h:=U1 m.Lanes (N9 ⟨m⟩) (nextE m) (fun i l hl=>by
     have hi:=K6 hl
     have L:=Yw H hl
     obtain ⟨p1,p2⟩:=B.pts l (lF hl)
     unfold N9
     dsimp only
     rw [show decide ((i:Int)< (m.Lanes.length:Int))=true from l9 (by omega),E7 hl,bD,lA,MH (EY L.curve) p1,lA,(MI B H hl).1,SE (n:=(i:Int)+1) (by omega)]
     cases nextE m i l<;>rfl) (by
     unfold N9
     dsimp only
     rw [show decide ((m.Lanes.length:Int)< (m.Lanes.length:Int))=false from bA (by omega)];rfl)
   unfold T1
   rw [h]
   cases G4 (nextE m) 0 m.Lanes<;>rfl
  ·have h:=U1 m.Lanes (Am m) (nextE m) (fun i l hl=>by
     have hi:=K6 hl
     unfold Am
     rw [show decide ((i:Int)< (m.Lanes.length:Int))=true from l9 (by omega),E7 hl,bD,lA,(MI B H hl).2,SE (n:=(i:Int)+1) (by omega)]
     cases nextE m i l<;>rfl) (by
     unfold Am
     rw [show decide ((m.Lanes.length:Int)< (m.Lanes.length:Int))=false from bA (by omega)];rfl)
   unfold Hp
   rw [h]
   cases G4 (nextE m) 0 m.Lanes<;>rfl
/-- The place of the first element with a property. -/
theorem JO {α:Type}{f:Int→Option (Stp Int (Sum Unit Int))}(l:List α)(P:α→Bool)(hl:l.length≤1000000000)(hf: ∀(i:Nat) a,l[i]? =some a→f (i:Int)=some (if P a then .out (.inr (i:Int))else .go (C9 ((i:Int)+1))))(he:f (l.length:Int)=some (.out (.inl ()))):
    loop f 0=some (match l.findIdx? P with|some i=> .inr (i:Int)|none=> .inl ()):=by
  have key: ∀(r:List α) (i:Nat),l.drop i=r→i≤l.length→loop f (i:Int)=some (match r.findIdx? P with|some j=> .inr ((i+j:Nat):Int)|none=> .inl ()):=by
    intro r
    induction r with
    |nil=>
     intro i hi hil
     have:=S6 hi
     obtain rfl:i=l.length:=by omega
     rw [F4 he];rfl
    |cons a r ih=>
     intro i hi _
     have hlt:=P4 hi
     have h0:l[i]? =some a:=by have:=congrArg (fun z=>z[0]?) hi;simpa using this
     have hs:=hf i a h0
     rw [List.findIdx?_cons]
     by_cases hp:P a=true
     ·rw [bF hp]at hs
      rw [F4 hs,bF hp];simp
     ·rw [bG hp]at hs
      rw [E9 (by omega)]at hs
      rw [M6 hs,show ((i:Int)+1)=((i+1:Nat):Int) by omega,ih (i+1) (L5 hi) (by omega),bG hp]
      cases r.findIdx? P with
      |none=>rfl
      |some j=>simp only [lE];congr 3;omega
  have:=key l 0 rfl (by omega)
  rw [show ((0:Nat):Int)=0 from rfl]at this
  rw [this]
  cases l.findIdx? P<;>simp
/-- -1, or the place. -/
def cT {α:Type}(P:α→Bool)(l:List α):Int:=match l.findIdx? P with|some i=>(i:Int)|none=> -1
theorem DO {α:Type}(P:α→Bool)(l:List α):decide (cT P l≥0)=l.any P:=by
  unfold cT
  cases h:l.findIdx? P with
  |none=>
   have:=List.findIdx?_eq_none_iff.1 h
   rw [show l.any P=false by rw [List.any_eq_false];intro x hx;simpa using this x hx]
   decide
  |some i=>
   have:=List.findIdx?_isSome (xs:=l) (p:=P)
   rw [h]at this
   rw [← this]
   simp
/-- What both twins compute of a list. -/
theorem JP {α:Type}{f:Int→Option (Stp Int (Sum Unit Int))}(l:List α)(P:α→Bool)(hl:l.length≤1000000000)(hf: ∀(i:Nat) a,l[i]? =some a→f (i:Int)=some (if P a then .out (.inr (i:Int))else .go (C9 ((i:Int)+1))))(he:f (l.length:Int)=some (.out (.inl ()))):
    thenS (loop f 0) (fun _=>some (-1)) (fun r=>some r)=some (cT P l):=by
  rw [JO l P hl hf he]
  unfold cT
  cases l.findIdx? P<;>rfl
theorem XP (l:List Phase)(hl:l.length≤1000000):E2 l=some (l.any fun p=> !Ua p.Ticks 1 10000):=by
  unfold E2 F5
  rw [JP l (fun p=> !Ua p.Ticks 1 10000) (by omega) (fun i a h=>by
   have:=K6 h
   unfold I3 Dk
   rw [show decide ((i:Int)< (l.length:Int))=true from l9 (by omega),E7 h,bD,lA,On,lA,lA]
   cases Ua a.Ticks 1 10000<;>rfl) (by
   unfold I3
   simp)]
  rw [lA,DO]
theorem UF (m:Map)(l:List Phase)(hl:l.length≤1000000)(hm:m.Lanes.length≤1000000)(hg: ∀p∈l,p.Green.length≤1000000):D9 l ⟨m⟩=some (l.any fun p=> !Ck m.Lanes.length 0 p.Green):=by
  unfold D9 F3
  rw [JP l (fun p=> !Ck m.Lanes.length 0 p.Green) (by omega) (fun i a h=>by
   have:=K6 h
   unfold D8 R2
   dsimp only
   rw [show decide ((i:Int)< (l.length:Int))=true from l9 (by omega),E7 h,bD,lA,EX _ _ _ (hg a (lF h)) (by omega) (by omega),lA,lA]
   cases Ck (m.Lanes.length:Int) 0 a.Green<;>rfl) (by
   unfold D8
   simp)]
  rw [lA,DO]
structure BearS (m:Map):Prop where
  many:m.Signals.length≤1000000
  phases: ∀s∈m.Signals,s.Phases.length≤1000000∧∀p∈s.Phases,p.Green.length≤1000000
def signalE (m:Map)(_:Nat)(s:Signal):Option Int:=
  if s.Phases.length=0 then some 6
  else if 6<s.Phases.length then some 8
  else if Ua s.Offset 0 1099511627776=false then some 2
  else if (s.Phases.any fun p=> !Ua p.Ticks 1 10000)=true then some 2
  else if (s.Phases.any fun p=> !Ck m.Lanes.length 0 p.Green)=true then some 11 else none
theorem UG {m:Map}(B:Bear m)(S:BearS m):Q9 ⟨m⟩=some ((G4 (signalE m) 0 m.Signals).getD 0):=by
  have h:=U1 m.Signals (N4 ⟨m⟩) (signalE m) (fun i s hs=>by
    have hi:=K6 hs
    have hb:=S.many
    obtain ⟨p1,p2⟩:=S.phases s (lF hs)
    unfold N4 signalE
    dsimp only
    rw [show decide ((i:Int)< (m.Signals.length:Int))=true from l9 (by omega),E7 hs,bD,lA,On,lA,XP _ p1,lA,UF m _ p1 B.lanes p2,lA,SE (n:=(i:Int)+1) (by omega)]
    by_cases h1:s.Phases.length=0
    ·rw [bF h1,h1];rfl
    ·rw [bG h1,show ((s.Phases.length:Int)==0)=false by simp only [beq_eq_false_iff_ne];omega,bE]
     by_cases h2:6<s.Phases.length
     ·rw [bF h2,show decide ((s.Phases.length:Int)>6)=true from l9 (by omega)];rfl
     ·rw [bG h2,show decide ((s.Phases.length:Int)>6)=false from bA (by omega),bE]
      cases Ua s.Offset 0 1099511627776
      ·rfl
      ·cases (s.Phases.any fun p=> !Ua p.Ticks 1 10000)
       ·cases (s.Phases.any fun p=> !Ck m.Lanes.length 0 p.Green)<;>rfl
       ·rfl) (by
    unfold N4
    dsimp only
    rw [show decide ((m.Signals.length:Int)< (m.Signals.length:Int))=false from bA (by omega)];rfl)
  unfold Q9
  rw [h]
  cases G4 (signalE m) 0 m.Signals<;>rfl
theorem RH (s:Signal)(hl:s.Phases.length≤1000000): ∀(r:List Phase) (i:Nat) (b:Bool),s.Phases.drop i=r→i≤s.Phases.length→loop (V0 s) (b,(i:Int))=some (b&& !(r.any fun p=> !Ua p.Ticks 1 10000)):=by
  intro r
  induction r with
  |nil=>
   intro i b hi hil
   have:=S6 hi
   refine F4 ?_
   unfold V0
   dsimp only
   rw [show decide ((i:Int)< (s.Phases.length:Int))=false from bA (by omega)]
   simp
  |cons p r ih=>
   intro i b hi hil
   have hlt:=P4 hi
   have hs:V0 s (b,(i:Int))=some (.go (b&&Ua p.Ticks 1 10000,((i+1:Nat):Int))):=by
     unfold V0
     dsimp only
     rw [show decide ((i:Int)< (s.Phases.length:Int))=true from l9 (by omega),W2 hi,SE (n:=(i:Int)+1) (by omega)]
     cases b<;>rfl
   rw [M6 hs,ih (i+1) _ (L5 hi) (by omega),List.any_cons]
   cases b<;>cases Ua p.Ticks 1 10000<;>simp
theorem OM (m:Map)(s:Signal)(hl:s.Phases.length≤1000000)(hg: ∀p∈s.Phases,p.Green.length≤1000000):loop (U9 m s) 0=some (if (s.Phases.any fun p=> !Ck m.Lanes.length 0 p.Green)=true then .inr 11 else .inl ()):=by
  have h:=U1 s.Phases (U9 m s) (fun _ p=>if Ck m.Lanes.length 0 p.Green then none else some 11) (fun i p hp=>by
    have:=K6 hp
    unfold U9
    rw [show decide ((i:Int)< (s.Phases.length:Int))=true from l9 (by omega),E7 hp,bD,lA,BK _ _ _ (hg p (lF hp)),lA,SE (n:=(i:Int)+1) (by omega)]
    cases Ck (m.Lanes.length:Int) 0 p.Green<;>rfl) (by
    unfold U9
    rw [show decide ((s.Phases.length:Int)< (s.Phases.length:Int))=false from bA (by omega)];rfl)
  rw [h]
  have key: ∀(l:List Phase) (i:Nat),EV (G4 (fun (_:Nat) (p:Phase)=>if Ck (m.Lanes.length:Int) 0 p.Green=true then none else some (11:Int)) i l)=if (l.any fun p=> !Ck m.Lanes.length 0 p.Green)=true then .inr 11 else .inl ():=by
    intro l
    induction l with
    |nil=>intro i;rfl
    |cons p r ih=>
     intro i
     unfold G4
     rw [List.any_cons]
     cases hq:Ck (m.Lanes.length:Int) 0 p.Green
     ·rfl
     ·exact ih (i+1)
  rw [key]
end Go.Abs.World
/-! Loops over lists, as functions on lists. -/
namespace Go.Abs
open Go
section
variable {α β σ S τ:Type}
/-- What a loop over a list makes, with a state, and with a way out. -/
def JQ (step:Nat→σ→α→Sum σ τ)(fin:σ→τ):Nat→σ→List α→τ
  |_,s,[]=>fin s
  |i,s,a::r=>match step i s a with
   | .inl s'=>JQ step fin (i+1) s' r
   | .inr t=>t
theorem Em {l:List α}{i:Nat}{a:α}{r:List α}(h:l.drop i=a::r):l[i]? =some a:=by
  have:=congrArg (fun z=>z[0]?) h
  simpa using this
theorem iD {F:S→Option (Stp S τ)}(pk:Nat→σ→S)(l:List α)(inv:Nat→σ→Prop)(step:Nat→σ→α→Sum σ τ)(fin:σ→τ){s0:σ}{S0:S}(hS:pk 0 s0=S0)(hi:inv 0 s0)
    (hF: ∀i a s,l[i]? =some a→inv i s→F (pk i s)=some (match step i s a with| .inl s'=> .go (pk (i+1) s')| .inr t=> .out t))
    (hI: ∀i a s s',l[i]? =some a→inv i s→step i s a= .inl s'→inv (i+1) s')
    (h0: ∀s,inv l.length s→F (pk l.length s)=some (.out (fin s))):loop F S0=some (JQ step fin 0 s0 l):=by
  have key: ∀(r:List α) (i:Nat) (s:σ),l.drop i=r→i≤l.length→inv i s→loop F (pk i s)=some (JQ step fin i s r):=by
    intro r
    induction r with
    |nil=>
     intro i s hi hil hv
     have:=S6 hi
     obtain rfl:i=l.length:=by omega
     exact F4 (h0 s hv)
    |cons a r ih=>
     intro i s hi hil hv
     have hlt:=P4 hi
     have ha:=Em hi
     have hs:=hF i a s ha hv
     unfold JQ
     cases h:step i s a with
     |inl s'=>rw [h]at hs;rw [M6 hs];exact ih (i+1) s' (L5 hi) (by omega) (hI i a s s' ha hv h)
     |inr t=>rw [h]at hs;exact F4 hs
  rw [← hS]
  exact key l 0 s0 rfl (by omega) hi
/-- The same without a way out. -/
def DP (step:Nat→σ→α→σ):Nat→σ→List α→σ
  |_,s,[]=>s
  |i,s,a::r=>DP step (i+1) (step i s a) r
theorem FS (step:Nat→σ→α→σ)(fin:σ→τ): ∀(l:List α) (i:Nat) (s:σ),JQ (fun i s a=> .inl (step i s a)) fin i s l=fin (DP step i s l)
  | [],_,_=>rfl
  |_::r,i,_=>FS step fin r (i+1) _
theorem iE {F:S→Option (Stp S τ)}(pk:Nat→σ→S)(l:List α)(inv:Nat→σ→Prop)(step:Nat→σ→α→σ)(fin:σ→τ){s0:σ}{S0:S}(hS:pk 0 s0=S0)(hi:inv 0 s0)
    (hF: ∀i a s,l[i]? =some a→inv i s→F (pk i s)=some (.go (pk (i+1) (step i s a))))
    (hI: ∀i a s,l[i]? =some a→inv i s→inv (i+1) (step i s a))
    (h0: ∀s,inv l.length s→F (pk l.length s)=some (.out (fin s))):loop F S0=some (fin (DP step 0 s0 l)):=by
  rw [← FS step fin]
  exact iD pk l inv _ fin hS hi hF (fun i a s s' h1 h2 h3=>by cases h3;exact hI i a s h1 h2) h0
/-- The elements that a loop gathers. -/
def Bi (g:Nat→α→Option β):Nat→List α→List β
  |_,[]=> []
  |i,a::r=>match g i a with
   |some b=>b::Bi g (i+1) r
   |none=>Bi g (i+1) r
theorem EZ (g:Nat→α→Option β): ∀(l:List α) (i:Nat),(Bi g i l).length≤l.length
  | [],_=>bU _
  |a::r,i=>by
   have:=EZ g r (i+1)
   unfold Bi
   cases g i a<;>simp only [lJ]<;>omega
theorem JR (g:Nat→α→Option β): ∀(l:List α) (i:Nat) (s:List β),DP (fun i s a=>match g i a with|some b=>s++ [b]|none=>s) i s l=s++Bi g i l
  | [],_,s=>by simp [DP,Bi]
  |a::r,i,s=>by
   unfold DP Bi
   rw [JR g r (i+1)]
   cases g i a<;>simp
theorem cU {F:S→Option (Stp S τ)}(pk:Nat→List β→S)(l:List α)(g:Nat→α→Option β)(fin:List β→τ){S0:S}(hS:pk 0 []=S0)
    (hF: ∀i a (s:List β),l[i]? =some a→s.length≤i→F (pk i s)=some (.go (pk (i+1) (match g i a with|some b=>s++ [b]|none=>s))))
    (h0: ∀s,F (pk l.length s)=some (.out (fin s))):loop F S0=some (fin (Bi g 0 l)):=by
  have:=iE pk l (fun i s=>s.length≤i) (fun i s a=>match g i a with|some b=>s++ [b]|none=>s) fin hS (by simp) hF (fun i a s _ hs=>by
    cases g i a<;>simp<;>omega) (fun s _=>h0 s)
  rw [this,JR,lN]
theorem ON {F:List β×Int→Option (Stp (List β×Int) τ)}(l:List α)(g:Nat→α→Option β)(fin:List β→τ)
    (hF: ∀(i:Nat) a (s:List β),l[i]? =some a→s.length≤i→F (s,(i:Int))=some (.go ((match g i a with|some b=>s++ [b]|none=>s),((i+1:Nat):Int))))
    (h0: ∀s,F (s,(l.length:Int))=some (.out (fin s))):loop F ([],0)=some (fin (Bi g 0 l)):=cU (fun i s=>(s,(i:Int))) l g fin rfl hF h0
/-- Is there one? -/
theorem VW {F:Int→Option (Stp Int (Sum Unit β))}(l:List α)(p:α→Bool)(v:β)(hF: ∀(i:Nat) a,l[i]? =some a→F (i:Int)=some (if p a then .out (.inr v)else .go ((i+1:Nat):Int)))(h0:F (l.length:Int)=some (.out (.inl ()))):
    loop F 0=some (if l.any p then .inr v else .inl ()):=by
  have key: ∀(l:List α) (i:Nat),JQ (fun _ _ a=>if p a then Sum.inr (Sum.inr v)else Sum.inl ()) (fun _=>(Sum.inl ():Sum Unit β)) i () l=if l.any p then .inr v else .inl ():=by
    intro l
    induction l with
    |nil=>intro i;rfl
    |cons a r ih=>
     intro i
     unfold JQ
     rw [List.any_cons]
     cases h:p a
     ·exact ih (i+1)
     ·rfl
  rw [← key l 0]
  exact iD (F:=F) (σ:=Unit) (fun i _=>(i:Int)) l (fun _ _=>True) _ _ (s0:=()) rfl trivial (fun i a _ h _=>by rw [hF i a h];cases p a<;>rfl) (fun _ _ _ _ _ _ _=>trivial) (fun _ _=>h0)
end
theorem Q7 {i:Nat}{n:Nat}(h:i<n):decide ((i:Int)< (n:Int))=true:=l9 (by omega)
theorem N6 (n:Nat):decide ((n:Int)< (n:Int))=false:=bA (by omega)
theorem J9 {i:Nat}{n:Nat}(h:i<n)(hn:n≤1000000000000):C9 ((i:Int)+1)=((i+1:Nat):Int):=by rw [E9 (by omega)];omega
end Go.Abs
namespace Go.Abs.World
open Go Go.Abs
structure BearZ (m:Map):Prop where
  many:m.Zones.length≤1000000
  parts: ∀z∈m.Zones,z.Parts.length≤1000000
noncomputable def R0 (m:Map)(k:Int):Int:=((m.Lanes[k.toNat]?).map fun l=>Qy l.Curve_).getD 0
noncomputable def Vo (m:Map)(p:Part):Bool:=decide (p.From<0)||decide (p.From≥p.To)||decide (p.To>R0 m p.Lane_)||decide (p.Rank<0)||decide (p.Rank>100)
noncomputable def zoneE (m:Map)(_:Nat)(z:Zone):Option Int:=
  if z.Parts.length<2 then some 6
  else if 6<z.Parts.length then some 8
  else if z.Signal_<0∨(m.Signals.length:Int)<z.Signal_ then some 2
  else if Ck m.Lanes.length 0 (z.Parts.map (·.Lane_))=false then some 11
  else if z.Parts.any (Vo m)=true then some 2 else none
theorem Vp {m:Map}{k:Int}(h0:0≤k)(h1:k<m.Lanes.length): ∃l,m.Lanes[k.toNat]? =some l∧C8 m.Lanes k=some l:=by
  have hlt:k.toNat<m.Lanes.length:=by omega
  refine ⟨m.Lanes[k.toNat],lG hlt,?_⟩
  unfold C8
  rw [bF h0,lG hlt]
theorem GY {m:Map}(B:Bear m){k:Int}(h0:0≤k)(h1:k<m.Lanes.length):Bn m k=some (R0 m k):=by
  obtain ⟨l,e1,e2⟩:=Vp h0 h1
  have:=gA (m:=m) e1 (B.pts l (lF e1)).1
  rw [show ((k.toNat:Nat):Int)=k by omega]at this
  rw [this,R0,e1];rfl
theorem JS {m:Map}(B:Bear m){k:Int}(h0:0≤k)(h1:k<m.Lanes.length): ∃l,C8 m.Lanes k=some l∧Ca l.Curve_=some (R0 m k):=by
  obtain ⟨l,e1,e2⟩:=Vp h0 h1
  refine ⟨l,e2,?_⟩
  rw [We _ (B.pts l (lF e1)).1,R0,e1];rfl
theorem RI {α β:Type}(f:α→β): ∀(l:List α) (i:Nat),Bi (fun _ a=>some (f a)) i l=l.map f
  | [],_=>rfl
  |a::r,i=>by rw [Bi,RI f r];rfl
theorem cV {z:Zone}{F:List Int×Int→Option (Stp (List Int×Int) (List Int))}(hl:z.Parts.length≤1000000)
    (hF: ∀x,F x=cond (decide (x.2< (z.Parts.length:Int))) ((C8 z.Parts x.2).bind fun v=>(Fk x.1 [v.Lane_]).bind fun w=>some (.go (w,C9 (x.2+1)))) (some (.out x.1))):
    loop F ([],0)=some (z.Parts.map (·.Lane_)):=by
  rw [← RI (fun p:Part=>p.Lane_) z.Parts 0]
  refine cU (fun i s=>(s,(i:Int))) z.Parts (fun _ p=>some p.Lane_) id rfl (fun i a s ha hs=> ?_) (fun s=> ?_)
  ·have hi:=K6 ha
   rw [hF,Q7 hi,E7 ha,bD,lA,Ff (by simp;omega),lA,J9 hi (by omega)]
  ·rw [hF,N6];rfl
theorem cW {m:Map}(B:Bear m)(Z:BearZ m):T6 ⟨m⟩=some ((G4 (zoneE m) 0 m.Zones).getD 0):=by
  have hb:=B.lanes
  have h:=U1 m.Zones (P7 ⟨m⟩) (zoneE m) (fun i z hz=>by
    have hi:=K6 hz
    have hm:=Z.many
    have p1:=Z.parts z (lF hz)
    unfold P7 zoneE
    dsimp only
    rw [Q7 hi,E7 hz,bD,lA,cV p1 (F:=Ee z) (fun x=>rfl),lA,EX _ _ _ (by simpa using p1) (by omega) (by omega),lA,J9 hi (by omega)]
    by_cases h1:z.Parts.length<2
    ·rw [bF h1,show decide ((z.Parts.length:Int)<2)=true from l9 (by omega)];rfl
    ·rw [bG h1,show decide ((z.Parts.length:Int)<2)=false from bA (by omega),bE]
     by_cases h2:6<z.Parts.length
     ·rw [bF h2,show decide ((z.Parts.length:Int)>6)=true from l9 (by omega)];rfl
     ·rw [bG h2,show decide ((z.Parts.length:Int)>6)=false from bA (by omega),bE]
      by_cases h3:z.Signal_<0∨(m.Signals.length:Int)<z.Signal_
      ·rw [bF h3,show ((decide (z.Signal_<0))||(decide (z.Signal_>(m.Signals.length:Int))))=true by simpa using h3];rfl
      ·rw [bG h3,show ((decide (z.Signal_<0))||(decide (z.Signal_>(m.Signals.length:Int))))=false by rw [bP];simpa using h3,bE]
       cases h4:Ck (m.Lanes.length:Int) 0 (z.Parts.map (·.Lane_))
       ·rfl
       ·rw [bG (by decide)]
        have:=VW (F:=P6 ⟨m⟩ z) z.Parts (Vo m) (2:Int) (fun j p hp=>by
          have hj:=K6 hp
          have hk:=Rj h4 p.Lane_ (List.mem_map.2 ⟨p,lF hp,rfl⟩)
          unfold P6 Vo
          dsimp only
          rw [Q7 hj,E7 hp,bD,lA,GY B hk.1 hk.2,J9 hj (by omega)]
          cases h5:(decide (p.From<0)||decide (p.From≥p.To))
          ·simp only [bM,bD,lA]
           cases (false||decide (p.To>R0 m p.Lane_)||decide (p.Rank<0)||decide (p.Rank>100))<;>rfl
          ·rfl) (by unfold P6;rw [N6];rfl)
        rw [this]
        cases z.Parts.any (Vo m)<;>rfl) (by
    unfold P7
    dsimp only
    rw [N6];rfl)
  unfold T6
  rw [h]
  cases G4 (zoneE m) 0 m.Zones<;>rfl
theorem cX {m:Map}(B:Bear m)(Z:BearZ m){i:Nat}{z:Zone}(hz:m.Zones[i]? =some z):Hq m z=some ((zoneE m i z).getD 0):=by
  have hb:=B.lanes
  have p1:=Z.parts z (lF hz)
  unfold Hq zoneE
  rw [cV p1 (F:=Gz z) (fun x=>rfl),lA,BK _ _ _ (by simpa using p1),lA]
  by_cases h1:z.Parts.length<2
  ·rw [bF h1,show decide ((z.Parts.length:Int)<2)=true from l9 (by omega)];rfl
  ·rw [bG h1,show decide ((z.Parts.length:Int)<2)=false from bA (by omega),bE]
   by_cases h2:6<z.Parts.length
   ·rw [bF h2,show decide ((z.Parts.length:Int)>6)=true from l9 (by omega)];rfl
   ·rw [bG h2,show decide ((z.Parts.length:Int)>6)=false from bA (by omega),bE]
    by_cases h3:z.Signal_<0∨(m.Signals.length:Int)<z.Signal_
    ·rw [bF h3,show ((decide (z.Signal_<0))||(decide (z.Signal_>(m.Signals.length:Int))))=true by simpa using h3];rfl
    ·rw [bG h3,show ((decide (z.Signal_<0))||(decide (z.Signal_>(m.Signals.length:Int))))=false by rw [bP];simpa using h3,bE]
     cases h4:Ck (m.Lanes.length:Int) 0 (z.Parts.map (·.Lane_))
     ·rfl
     ·rw [bG (by decide)]
      have:=VW (F:=An m z) z.Parts (Vo m) (2:Int) (fun j p hp=>by
        have hj:=K6 hp
        have hk:=Rj h4 p.Lane_ (List.mem_map.2 ⟨p,lF hp,rfl⟩)
        obtain ⟨l,e1,e2⟩:=JS B hk.1 hk.2
        unfold An Vo
        rw [Q7 hj,E7 hp,bD,lA,e1,J9 hj (by omega)]
        cases h5:(decide (p.From<0)||decide (p.From≥p.To))
        ·simp only [bM,bD,lA,e2]
         cases (false||decide (p.To>R0 m p.Lane_)||decide (p.Rank<0)||decide (p.Rank>100))<;>rfl
        ·rfl) (by unfold An;rw [N6];rfl)
      rw [this]
      cases z.Parts.any (Vo m)<;>rfl
structure BearW (m:Map):Prop where
  many:m.Works.length≤1000000
noncomputable def workE (m:Map)(_:Nat)(w:Work):Option Int:=
  if w.Lane_<0∨(m.Lanes.length:Int)≤w.Lane_ then some 7
  else if (decide (w.From<0)||decide (w.From>w.To)||decide (w.To>R0 m w.Lane_)||decide (w.Begin<0)||decide (w.Begin≥w.End)||decide (w.End>1099511627776)|| !Ua w.Limit 0 ((m.Lanes[w.Lane_.toNat]?).map fun l=>(Qj l.Kind).1).get!)=true then some 2 else none
theorem cY {m:Map}(B:Bear m)(W:BearW m):T7 ⟨m⟩=some ((G4 (workE m) 0 m.Works).getD 0):=by
  have hb:=B.lanes
  have h:=U1 m.Works (P8 ⟨m⟩) (workE m) (fun i w hw=>by
    have hi:=K6 hw
    have hm:=W.many
    unfold P8 workE
    dsimp only
    rw [Q7 hi,E7 hw,bD,lA,J9 hi (by omega)]
    by_cases h1:w.Lane_<0∨(m.Lanes.length:Int)≤w.Lane_
    ·rw [bF h1,show ((decide (w.Lane_<0))||(decide (w.Lane_≥(m.Lanes.length:Int))))=true by simpa using h1];rfl
    ·rw [bG h1,show ((decide (w.Lane_<0))||(decide (w.Lane_≥(m.Lanes.length:Int))))=false by rw [bP];simpa using h1,bE]
     obtain ⟨l,e1,e2⟩:=Vp (m:=m) (k:=w.Lane_) (by omega) (by omega)
     rw [e2,lA,EW,lA,GY B (by omega) (by omega),On,e1]
     simp only [lE,Option.get!_some]
     cases (decide (w.From<0)||decide (w.From>w.To))
     ·simp only [bM,bD,lA]
      cases (false||decide (w.To>R0 m w.Lane_)||decide (w.Begin<0)||decide (w.Begin≥w.End)||decide (w.End>1099511627776))
      ·simp only [bM,bD,lA]
       by_cases hq:Ua w.Limit 0 (Qj l.Kind).1=true<;>simp [hq]
      ·rfl
     ·rfl) (by
    unfold P8
    dsimp only
    rw [N6];rfl)
  unfold T7
  rw [h]
  cases G4 (workE m) 0 m.Works<;>rfl
theorem cZ {m:Map}(B:Bear m){i:Nat}(w:Work):Hr m w=some ((workE m i w).getD 0):=by
  have hb:=B.lanes
  unfold Hr workE
  by_cases h1:w.Lane_<0∨(m.Lanes.length:Int)≤w.Lane_
  ·rw [bF h1,show ((decide (w.Lane_<0))||(decide (w.Lane_≥(m.Lanes.length:Int))))=true by simpa using h1];rfl
  ·rw [bG h1,show ((decide (w.Lane_<0))||(decide (w.Lane_≥(m.Lanes.length:Int))))=false by rw [bP];simpa using h1,bE]
   obtain ⟨l,e1,e2⟩:=Vp (m:=m) (k:=w.Lane_) (by omega) (by omega)
   obtain ⟨l',e3,e4⟩:=JS B (k:=w.Lane_) (by omega) (by omega)
   rw [e2]at e3
   cases e3
   rw [e2,lA,BJ,lA,e4,Sn,e1]
   simp only [lE,Option.get!_some]
   cases (decide (w.From<0)||decide (w.From>w.To))
   ·simp only [bM,bD,lA]
    cases (false||decide (w.To>R0 m w.Lane_)||decide (w.Begin<0)||decide (w.Begin≥w.End)||decide (w.End>1099511627776))
    ·simp only [bM,bD,lA]
     by_cases hq:Ua w.Limit 0 (Qj l.Kind).1=true<;>simp [hq]
    ·rfl
   ·rfl
theorem UH {m:Map}(S:BearS m)(i:Nat){s:Signal}(hs:s∈m.Signals):Ek m s=some ((signalE m i s).getD 0):=by
  obtain ⟨p1,p2⟩:=S.phases s hs
  unfold Ek signalE
  rw [Sn,lA,show (0:Int)=((0:Nat):Int) from rfl,RH s p1 s.Phases 0 _ rfl (by omega),lA]
  rw [show ((0:Nat):Int)=0 from rfl,OM m s p1 p2]
  by_cases h1:s.Phases.length=0
  ·rw [bF h1,h1];rfl
  ·rw [bG h1,show ((s.Phases.length:Int)==0)=false by simp only [beq_eq_false_iff_ne];omega,bE]
   by_cases h2:6<s.Phases.length
   ·rw [bF h2,show decide ((s.Phases.length:Int)>6)=true from l9 (by omega)];rfl
   ·rw [bG h2,show decide ((s.Phases.length:Int)>6)=false from bA (by omega),bE]
    cases Ua s.Offset 0 1099511627776
    ·rfl
    ·cases (s.Phases.any fun p=> !Ua p.Ticks 1 10000)
     ·cases (s.Phases.any fun p=> !Ck m.Lanes.length 0 p.Green)<;>rfl
     ·rfl
/-- All lists of a map are of bearable lengths. -/
structure BearM (m:Map):Prop where
  toBear:Bear m
  toBearS:BearS m
  toBearZ:BearZ m
  toBearW:BearW m
theorem BearM.lanes {m:Map}(B:BearM m):m.Lanes.length≤1000000:=B.toBear.lanes
noncomputable def Ur (m:Map):Int:=
  if Ua m.Version 0 1099511627776=false then 2
  else if m.Lanes.length=0 then 6
  else if 12<m.Lanes.length∨12<m.Zones.length∨4<m.Signals.length∨8<m.Works.length then 8
  else ((G4 (laneE m.Lanes.length) 0 m.Lanes).or ((G4 (nextE m) 0 m.Lanes).or ((G4 (signalE m) 0 m.Signals).or ((G4 (zoneE m) 0 m.Zones).or (G4 (workE m) 0 m.Works))))).getD 0
theorem Ap {α:Type}{g:Nat→α→Option Int}(h: ∀i a e,g i a=some e→e≠0): ∀{l:List α} {i:Nat} {e:Int},G4 g i l=some e→e≠0
  | [],_,_,q=>by cases q
  |a::r,i,e,q=>by
   unfold G4 at q
   cases hg:g i a with
   |some e'=>rw [hg]at q;cases q;exact h i a e hg
   |none=>rw [hg]at q;exact Ap h q
theorem DQ {m:Map}{i:Nat}{z:Zone}{e:Int}(h:zoneE m i z=some e):e≠0:=by
  unfold zoneE at h
  repeat' split at h
  all_goals first|(cases h;decide)|cases h
theorem Vq {m:Map}{i:Nat}{z:Signal}{e:Int}(h:signalE m i z=some e):e≠0:=by
  unfold signalE at h
  repeat' split at h
  all_goals first|(cases h;decide)|cases h
theorem JT {m:Map}{i:Nat}{z:Work}{e:Int}(h:workE m i z=some e):e≠0:=by
  unfold workE at h
  repeat' split at h
  all_goals first|(cases h;decide)|cases h
theorem JU {m:Map}{i:Nat}{z:Lane}{e:Int}(h:nextE m i z=some e):e≠0:=Ap (fun _ _ _=>XO) h
/-- A loop that goes on as long as there is no error. -/
theorem dA {α:Type}{F:Int×Int→Option (Stp (Int×Int) Int)}(l:List α)(g:Nat→α→Option Int)(hg: ∀i a e,g i a=some e→e≠0)(hl:l.length≤1000000)
    (hF: ∀(i:Nat) a,l[i]? =some a→F (0,(i:Int))=some (.go ((g i a).getD 0,((i+1:Nat):Int)))) (h0: ∀(i:Nat) (e:Int),e≠0→F (e,(i:Int))=some (.out e)) (h1:F (0,(l.length:Int))=some (.out 0)) (e0:Option Int) (he: ∀e,e0=some e→e≠0):
    loop F (e0.getD 0,0)=some ((e0.or (G4 g 0 l)).getD 0):=by
  have key: ∀(r:List α) (i:Nat),l.drop i=r→i≤l.length→loop F (0,(i:Int))=some ((G4 g i r).getD 0):=by
    intro r
    induction r with
    |nil=>
     intro i hi hil
     have:=S6 hi
     obtain rfl:i=l.length:=by omega
     exact F4 h1
    |cons a r ih=>
     intro i hi hil
     have hlt:=P4 hi
     have hs:=hF i a (Em hi)
     rw [M6 hs]
     unfold G4
     cases h:g i a with
     |some e=>exact F4 (h0 (i+1) e (hg i a e h))
     |none=>exact ih (i+1) (L5 hi) (by omega)
  cases e0 with
  |some e=>exact F4 (h0 0 e (he e rfl))
  |none=>exact key l 0 rfl (by omega)
theorem So {m:Map}(B:BearM m):Jj m=some (Ur m):=by
  have hb:=B.lanes
  unfold Jj Ur
  rw [Sn,lA]
  cases Ua m.Version 0 1099511627776
  ·rfl
  ·simp only [bL,bE,Bool.true_eq_false,if_false]
   by_cases h1:m.Lanes.length=0
   ·rw [bF h1,h1];rfl
   ·rw [bG h1,show ((m.Lanes.length:Int)==0)=false by simp only [beq_eq_false_iff_ne];omega,bE]
    by_cases h2:12<m.Lanes.length∨12<m.Zones.length∨4<m.Signals.length∨8<m.Works.length
    ·rw [bF h2,show ((((decide ((m.Lanes.length:Int)>12))||(decide ((m.Zones.length:Int)>12)))||(decide ((m.Signals.length:Int)>4)))||(decide ((m.Works.length:Int)>8)))=true by simp;omega];rfl
    ·rw [bG h2,show ((((decide ((m.Lanes.length:Int)>12))||(decide ((m.Zones.length:Int)>12)))||(decide ((m.Signals.length:Int)>4)))||(decide ((m.Works.length:Int)>8)))=false by simp;omega,bE]
     rw [RF B.toBear]
     cases H:G4 (laneE m.Lanes.length) 0 m.Lanes with
     |some e=>rfl
     |none=>
      have n1: ∀e,G4 (nextE m) 0 m.Lanes=some e→e≠0:=fun e h=>Ap (fun _ _ _=>JU) h
      have n2: ∀e,(G4 (nextE m) 0 m.Lanes).or (G4 (signalE m) 0 m.Signals)=some e→e≠0:=fun e h=>by
        rcases Option.or_eq_some_iff.1 h with h|⟨_,h⟩
        ·exact n1 e h
        ·exact Ap (fun _ _ _=>Vq) h
      have n3: ∀e,((G4 (nextE m) 0 m.Lanes).or (G4 (signalE m) 0 m.Signals)).or (G4 (zoneE m) 0 m.Zones)=some e→e≠0:=fun e h=>by
        rcases Option.or_eq_some_iff.1 h with h|⟨_,h⟩
        ·exact n2 e h
        ·exact Ap (fun _ _ _=>DQ) h
      simp only [EV,thenS,Option.none_or]
      rw [(MJ B.toBear H).2,lA]
      rw [dA m.Signals (signalE m) (fun _ _ _=>Vq) B.toBearS.many (fun i a ha=>by
       have hi:=K6 ha
       have hm:=B.toBearS.many
       unfold Fw
       dsimp only
       rw [Q7 hi,E7 ha,bH,show ((0:Int)==0)=true from rfl,bD,lA,UH B.toBearS i (lF ha),J9 hi (by omega)];rfl) (fun i e he=>by
       unfold Fw
       dsimp only
       rw [show (e==0)=false by simpa using he,Bool.and_false];rfl) (by unfold Fw;dsimp only;rw [N6];rfl) _ n1,lA]
      rw [dA m.Zones (zoneE m) (fun _ _ _=>DQ) B.toBearZ.many (fun i a ha=>by
       have hi:=K6 ha
       have hm:=B.toBearZ.many
       unfold Fv
       dsimp only
       rw [Q7 hi,E7 ha,bH,show ((0:Int)==0)=true from rfl,bD,lA,cX B.toBear B.toBearZ ha,J9 hi (by omega)];rfl) (fun i e he=>by
       unfold Fv
       dsimp only
       rw [show (e==0)=false by simpa using he,Bool.and_false];rfl) (by unfold Fv;dsimp only;rw [N6];rfl) _ n2,lA]
      rw [dA m.Works (workE m) (fun _ _ _=>JT) B.toBearW.many (fun i a ha=>by
       have hi:=K6 ha
       have hm:=B.toBearW.many
       unfold Fu
       dsimp only
       rw [Q7 hi,E7 ha,bH,show ((0:Int)==0)=true from rfl,bD,lA,cZ B.toBear (i:=i) a,J9 hi (by omega)];rfl) (fun i e he=>by
       unfold Fu
       dsimp only
       rw [show (e==0)=false by simpa using he,Bool.and_false];rfl) (by unfold Fu;dsimp only;rw [N6];rfl) _ n3,lA]
      rw [Option.or_assoc,Option.or_assoc]
theorem Ns {m:Map}(B:BearM m):Az m=some (Ur m):=by
  have hb:=B.lanes
  have s0:N2 m 0=(Z5 ⟨m⟩).bind fun v2=>cond (v2 !=0) (some (.out (.inr v2))) (some (.go 1)):=rfl
  have s1:N2 m 1=(T5 ⟨m⟩).bind fun v2=>cond (v2 !=0) (some (.out (.inr v2))) (some (.go 2)):=rfl
  have s2:N2 m 2=(T1 ⟨m⟩).bind fun v2=>cond (v2 !=0) (some (.out (.inr v2))) (some (.go 3)):=rfl
  have s3:N2 m 3=(Q9 ⟨m⟩).bind fun v2=>cond (v2 !=0) (some (.out (.inr v2))) (some (.go 4)):=rfl
  have s4:N2 m 4=(T6 ⟨m⟩).bind fun v2=>cond (v2 !=0) (some (.out (.inr v2))) (some (.go 5)):=rfl
  have s5:N2 m 5=(T7 ⟨m⟩).bind fun v2=>cond (v2 !=0) (some (.out (.inr v2))) (some (.go 6)):=rfl
  have s6:N2 m 6=some (.out (.inl ())):=rfl
  have stp: ∀(i j:Int) (e:Option Int) (X:Option Int),(∀e',e=some e'→e'≠0)→X=some (e.getD 0)→N2 m i=X.bind (fun v2=>cond (v2 !=0) (some (.out (.inr v2))) (some (.go j)))→loop (N2 m) i=match e with|some e'=>some (.inr e')|none=>loop (N2 m) j:=by
    intro i j e X he hX hs
    subst hX
    rw [lA]at hs
    cases e with
    |none=>exact M6 hs
    |some e'=>
     rw [Option.getD_some,show (e' !=0)=true by simpa using he e' rfl]at hs
     exact F4 hs
  unfold Az Ur
  have hnum:Z5 ⟨m⟩=some ((if Ua m.Version 0 1099511627776=false then some 2 else if m.Lanes.length=0 then some 6 else if 12<m.Lanes.length∨12<m.Zones.length∨4<m.Signals.length∨8<m.Works.length then some 8 else none:Option Int).getD 0):=by
    unfold Z5
    dsimp only
    rw [On,lA]
    cases Ua m.Version 0 1099511627776
    ·rfl
    ·simp only [bL,bE,Bool.true_eq_false,if_false]
     by_cases h1:m.Lanes.length=0
     ·rw [bF h1,h1];rfl
     ·rw [bG h1,show ((m.Lanes.length:Int)==0)=false by simp only [beq_eq_false_iff_ne];omega,bE]
      by_cases h2:12<m.Lanes.length∨12<m.Zones.length∨4<m.Signals.length∨8<m.Works.length
      ·rw [bF h2,show ((((decide ((m.Lanes.length:Int)>12))||(decide ((m.Zones.length:Int)>12)))||(decide ((m.Signals.length:Int)>4)))||(decide ((m.Works.length:Int)>8)))=true by simp;omega];rfl
      ·rw [bG h2,show ((((decide ((m.Lanes.length:Int)>12))||(decide ((m.Zones.length:Int)>12)))||(decide ((m.Signals.length:Int)>4)))||(decide ((m.Works.length:Int)>8)))=false by simp;omega];rfl
  rw [stp 0 1 _ _ (by repeat' split
                      all_goals (intro e' h;first|(cases h;decide)|cases h)) hnum s0]
  by_cases q1:Ua m.Version 0 1099511627776=false
  ·rw [bF q1,bF q1];rfl
  ·rw [bG q1,bG q1]
   by_cases q2:m.Lanes.length=0
   ·rw [bF q2,bF q2];rfl
   ·rw [bG q2,bG q2]
    by_cases q3:12<m.Lanes.length∨12<m.Zones.length∨4<m.Signals.length∨8<m.Works.length
    ·rw [bF q3,bF q3];rfl
    ·rw [bG q3,bG q3]
     dsimp only
     rw [stp 1 2 _ _ (fun e' h=>Ap (fun _ _ _=>JM) h) (cQ B.toBear) s1]
     cases H:G4 (laneE m.Lanes.length) 0 m.Lanes with
     |some e=>rfl
     |none=>
      dsimp only
      rw [stp 2 3 _ _ (fun e' h=>Ap (fun _ _ _=>JU) h) (MJ B.toBear H).1 s2]
      cases G4 (nextE m) 0 m.Lanes with
      |some e=>rfl
      |none=>
       dsimp only
       rw [stp 3 4 _ _ (fun e' h=>Ap (fun _ _ _=>Vq) h) (UG B.toBear B.toBearS) s3]
       cases G4 (signalE m) 0 m.Signals with
       |some e=>rfl
       |none=>
        dsimp only
        rw [stp 4 5 _ _ (fun e' h=>Ap (fun _ _ _=>DQ) h) (cW B.toBear B.toBearZ) s4]
        cases G4 (zoneE m) 0 m.Zones with
        |some e=>rfl
        |none=>
         dsimp only
         rw [stp 5 6 _ _ (fun e' h=>Ap (fun _ _ _=>JT) h) (cY B.toBear B.toBearW) s5]
         cases G4 (workE m) 0 m.Works with
         |some e=>rfl
         |none=>dsimp only;rw [F4 s6];rfl
/-- What a valid map is. -/
structure ValR (m:Map):Prop where
  ver:0≤m.Version∧m.Version≤1099511627776
  pos:0<m.Lanes.length
  lanes:m.Lanes.length≤12
  zones:m.Zones.length≤12
  signals:m.Signals.length≤4
  works:m.Works.length≤8
  laneE:G4 (laneE m.Lanes.length) 0 m.Lanes=none
  nextE:G4 (nextE m) 0 m.Lanes=none
  signalE:G4 (signalE m) 0 m.Signals=none
  zoneE:G4 (zoneE m) 0 m.Zones=none
  workE:G4 (workE m) 0 m.Works=none
theorem XQ {α:Type}{g:Nat→α→Option Int}{l:List α}(h: ∀i a e,g i a=some e→e≠0)(h0:(G4 g 0 l).getD 0=0):G4 g 0 l=none:=by
  cases q:G4 g 0 l with
  |none=>rfl
  |some e=>rw [q]at h0;exact absurd h0 (Ap h q)
theorem chkR_zero {m:Map}:Ur m=0↔ValR m:=by
  unfold Ur
  constructor
  ·intro h
   split at h
   ·cases h
   ·rename_i h1
    split at h
    ·cases h
    ·rename_i h2
     split at h
     ·cases h
     ·rename_i h3
      simp only [Ua,Bool.not_eq_false,bJ,bB]at h1
      have key: ∀{o r:Option Int},(∀e,o=some e→e≠0)→(o.or r).getD 0=0→o=none∧r.getD 0=0:=by
        intro o r ho hr
        cases o with
        |none=>exact ⟨rfl,hr⟩
        |some e=>exact absurd hr (ho e rfl)
      obtain ⟨a1,h⟩:=key (fun e h=>Ap (fun _ _ _=>JM) h) h
      obtain ⟨a2,h⟩:=key (fun e h=>Ap (fun _ _ _=>JU) h) h
      obtain ⟨a3,h⟩:=key (fun e h=>Ap (fun _ _ _=>Vq) h) h
      obtain ⟨a4,h⟩:=key (fun e h=>Ap (fun _ _ _=>DQ) h) h
      exact ⟨h1,by omega,by omega,by omega,by omega,by omega,a1,a2,a3,a4,XQ (fun _ _ _=>JT) h⟩
  ·rintro ⟨h1,h2,h3,h4,h5,h6,a1,a2,a3,a4,a5⟩
   rw [bG (by simp only [Ua,Bool.not_eq_false,bJ,bB];exact h1),bG (by omega),bG (by omega),a1,a2,a3,a4,a5];rfl
section
variable {m:Map}
theorem ValR.laneOK (V:ValR m){i:Nat}{l:Lane}(h:m.Lanes[i]? =some l):LaneOK m.Lanes.length i l:=Yw V.laneE h
theorem ValR.next (V:ValR m){i:Nat}{l:Lane}(h:m.Lanes[i]? =some l){k:Int}(hk:k∈l.Next):(i:Int)<k∧k<m.Lanes.length:=by
  have:=Rj (V.laneOK h).next k hk
  omega
end
/-- The lanes in which a lane goes on. -/
def nextOf (m:Map)(a:Nat):List Int:=((m.Lanes[a]?).map (·.Next)).getD []
theorem ValR.nextOf {m:Map}(V:ValR m){a:Nat}{k:Int}(hk:k∈World.nextOf m a):(a:Int)<k∧k<m.Lanes.length:=by
  unfold World.nextOf at hk
  cases h:m.Lanes[a]? with
  |none=>rw [h]at hk;cases hk
  |some l=>rw [h]at hk;exact V.next h hk
def dB (m:Map)(b:Int):Nat→Nat→Bool
  |0,_=>false
  |n+1,a=>(nextOf m a).any fun k=>k==b||dB m b n k.toNat
/-- Does a lane lead to another one? -/
def jK (m:Map)(a:Nat)(b:Int):Bool:=dB m b m.Lanes.length a
/-- What is known of the sets of the lanes from a number on. -/
structure Reach (m:Map)(i:Nat)(l:List Nat):Prop where
  len:l.length=12
  small: ∀(a x:Nat),l[a]? =some x→x<2^32
  zero: ∀(a:Nat),a<i→l[a]? =some 0
  bits: ∀(a x:Nat),i≤a→a<m.Lanes.length→l[a]? =some x→∀b:Nat,x.testBit b=jK m a (b:Int)
theorem Reach.get {m:Map}{i:Nat}{l:List Nat}(R:Reach m i l){a:Nat}(h:a<12): ∃x,l[a]? =some x∧x<2^32:=by
  have:=R.len
  exact ⟨l[a],lG (by omega),R.small a _ (lG (by omega))⟩
noncomputable def gB (m:Map)(k:Int):Bool:=(decide (k≥0)&&decide (k<m.Lanes.length))&& (Ur m==0)
theorem isM_true {m:Map}{k:Int}:gB m k=true↔0≤k∧k<m.Lanes.length∧ValR m:=by
  unfold gB
  rw [bJ,bJ,bQ,chkR_zero]
  simp only [bB,and_assoc,ge_iff_le]
theorem RJ {m:Map}(B:BearM m)(k:Int):La m k=some (gB m k):=by
  unfold La gB
  rw [Ns B]
  cases (decide (k≥0)&&decide (k< (m.Lanes.length:Int)))<;>rfl
theorem LF {m:Map}(B:BearM m)(k:Int):Sk m k=some (gB m k):=by
  unfold Sk gB
  rw [So B]
  cases (decide (k≥0)&&decide (k< (m.Lanes.length:Int)))<;>rfl
theorem Wj {m:Map}(B:BearM m){k:Int}(h0:0≤k)(h1:k<m.Lanes.length):Ke m k=some (R0 m k):=by
  obtain ⟨l,e1,e2⟩:=JS B.toBear h0 h1
  unfold Ke
  rw [e1,lA,e2];rfl
noncomputable def En (m:Map)(k:Int):Int:=if gB m k then R0 m k else 0
theorem Wk {m:Map}(B:BearM m)(k:Int):Z1 m k=some (En m k):=by
  unfold Z1 En
  rw [RJ B,lA]
  cases h:gB m k
  ·rfl
  ·have:=isM_true.1 h
   rw [bF rfl,bL,bE,GY B.toBear this.1 this.2.1];rfl
theorem Wl {m:Map}(B:BearM m)(k:Int):Kg m k=some (En m k):=by
  unfold Kg En
  rw [LF B,lA]
  cases h:gB m k
  ·rfl
  ·have:=isM_true.1 h
   rw [bF rfl,bL,bE,Wj B this.1 this.2.1];rfl
theorem FT (l:List Int)(hl:l.length≤1000000)(k:Int):M2 l k=some (l.contains k):=by
  unfold M2 S7
  rw [JP l (fun x=>k==x) (by omega) (fun i a h=>by
   have hi:=K6 h
   unfold Y2
   rw [Q7 hi,E7 h,bD,lA]
   cases k==a<;>rfl) (by unfold Y2;rw [N6];rfl)]
  rw [lA,DO,List.contains_eq_any_beq]
theorem dC (l:List Int)(hl:l.length≤1000000)(k:Int):Rh l k=some (l.contains k):=by
  unfold Rh
  rw [VW l (fun x=>x==k) true (fun i a h=>by
   have hi:=K6 h
   unfold Nl
   rw [Q7 hi,E7 h,bD,lA,J9 hi (by omega)]
   cases a==k<;>rfl) (by unfold Nl;rw [N6];rfl)]
  rw [List.contains_eq_any_beq,show (fun x=>x==k)=(fun x=>k==x) from funext fun x=>by rw [Bool.beq_comm]]
  cases l.any fun x=>k==x<;>rfl
/-- What comes before a lane. -/
def Oy (m:Map)(k:Int):List Int:=Bi (fun i (l:Lane)=>if l.Next.contains k then some (i:Int)else none) 0 m.Lanes
theorem XR {m:Map}(B:BearM m)(k:Int):Ef m k=some (Oy m k):=by
  unfold Ef Oy
  have hb:=B.lanes
  rw [ON m.Lanes (fun i (l:Lane)=>if l.Next.contains k then some (i:Int)else none) id (fun i l s h hs=>by
   have hi:=K6 h
   unfold Z8
   dsimp only
   rw [Q7 hi,E7 h,bD,lA,FT _ (B.toBear.pts l (lF h)).2,lA,Ff (by simp;omega),J9 hi (by omega)]
   cases l.Next.contains k<;>rfl) (fun s=>by unfold Z8;rw [N6];rfl)]
  rfl
theorem UI {m:Map}(B:BearM m)(k:Int):Nm m k=some (Oy m k):=by
  unfold Nm Oy
  have hb:=B.lanes
  rw [ON m.Lanes (fun i (l:Lane)=>if l.Next.contains k then some (i:Int)else none) id (fun i l s h hs=>by
   have hi:=K6 h
   unfold Ht
   dsimp only
   rw [Q7 hi,E7 h,bD,lA,dC _ (B.toBear.pts l (lF h)).2,lA,Ff (by simp;omega),J9 hi (by omega)]
   cases l.Next.contains k<;>rfl) (fun s=>by unfold Ht;rw [N6];rfl)]
  rfl
structure ZoneOK (m:Map)(z:Zone):Prop where
  two:2≤z.Parts.length
  six:z.Parts.length≤6
  sig:0≤z.Signal_∧z.Signal_≤m.Signals.length
  rise:Ck m.Lanes.length 0 (z.Parts.map (·.Lane_))=true
  part: ∀p∈z.Parts,0≤p.From∧p.From<p.To∧p.To≤R0 m p.Lane_∧0≤p.Rank∧p.Rank≤100
theorem ZoneOK.lane {m:Map}{z:Zone}(O:ZoneOK m z){p:Part}(hp:p∈z.Parts):0≤p.Lane_∧p.Lane_<m.Lanes.length:=Rj O.rise p.Lane_ (List.mem_map.2 ⟨p,hp,rfl⟩)
theorem dD:Gl=some true:=law04_awake_le _ (by decide+kernel)
theorem Kj (n:Int){m:Int}(hm:0<m):0≤n % m∧n % m<m:=⟨Int.emod_nonneg n (by omega),Int.emod_lt_of_pos n hm⟩
theorem FA {n m:Int}(hm:0<m):n % m=if n.tmod m<0 then n.tmod m+m else n.tmod m:=by
  have a:=Int.emod_nonneg n (show m≠0 by omega)
  have b:=Int.emod_lt_of_pos n hm
  rw [Int.tmod_eq_emod]
  by_cases q:0≤n∨m ∣ n
  ·rw [bF q,bG (by omega)];omega
  ·rw [bG q]
   have:n % m≠0:=fun e=>q (.inr (Int.dvd_of_emod_eq_zero e))
   rw [bF (by omega)];omega
theorem UJ {n m:Int}(hm:0<m)(hm2:m≤9223372036854775807):DG n m=some (n % m):=by
  have h1:=FA (n:=n) hm
  have a:=Kj n hm
  unfold DG Xr
  rw [bG (by omega),lA]
  by_cases q:n.tmod m<0
  ·rw [bF q]at h1
   rw [l9 q,bD,E9 (by omega),← h1]
  ·rw [bG q]at h1
   rw [bA q,bE,← h1]
def OO (kind lim:Int)(next:List Int)(a b c d:Int):Lane:=⟨kind,⟨[⟨a,b⟩,⟨c,d⟩]⟩,if kind=3 then 500 else 1500,lim,next⟩
theorem gC (kind lim:Int)(next:List Int)(a b c d:Int):T3 kind lim next [a,b,c,d]=some (OO kind lim next a b c d):=by
  unfold T3 OO
  rw [M6 (s':=(2,[⟨a,b⟩])) rfl,M6 (s':=(4,[⟨a,b⟩,⟨c,d⟩])) rfl,F4 (t:= [⟨a,b⟩,⟨c,d⟩]) rfl,lA]
  by_cases h:kind=3
  ·rw [bF h,h];rfl
  ·rw [bG h,show (kind==3)=false by simpa using h];rfl
def jT (off a b:Int):Signal:=⟨off,[⟨12,[a]⟩,⟨5,[]⟩,⟨9,[b]⟩,⟨4,[]⟩]⟩
/-- The numbers of which a map of the kit is made. -/
structure Par where
  lim:Int
  r:Int
  o:Int
  o':Int
  ver:Int
  wk:List Work
structure ParOK (p:Par):Prop where
  lim:p.lim=1500∨p.lim=600∨p.lim=1000∨p.lim=300
  r:p.r=0∨p.r=1
  o:0≤p.o∧p.o<31
  o':0≤p.o'∧p.o'<31
  ver:0≤p.ver∧p.ver<5
  wk:p.wk= []∨∃b l,0≤b∧b<40∧0≤l∧l≤400∧p.wk= [⟨0,10000,15000,b,b+20,l⟩]
def Mc (k:Nat)(lim:Int):List Lane:=match k with
  |0=> [OO 1 lim [] 0 0 60000 0]
  |1|2=> [OO 1 lim [] 0 0 50000 0,OO 1 1500 [] 30000 (-20000) 30000 20000]
  |3=> [OO 1 lim [1,2] 0 0 30000 0,OO 1 1500 [] 30000 0 60000 0,OO 1 800 [] 30000 0 54000 10000]
  |4=> [OO 1 lim [2] 0 0 30000 0,OO 1 1500 [2] 6000 (-10000) 30000 0,OO 1 1500 [] 30000 0 60000 0]
  |5=> [OO 1 lim [1] 0 0 20000 0,OO 1 lim [] 20000 0 50000 0,OO 3 200 [] 35000 (-8000) 35000 8000]
  |_=> [OO 1 lim [1,2] 0 0 20000 0,OO 1 1500 [] 20000 0 50000 0,OO 1 1000 [] 20000 0 44000 10000,OO 2 700 [] 36000 (-12000) 36000 18000]
def BM (k:Nat)(r:Int):List Zone:=match k with
  |1=> [⟨[⟨0,28000,32000,r⟩,⟨1,18000,22000,2 - 2*r⟩],0⟩]
  |2=> [⟨[⟨0,28000,32000,r⟩,⟨1,18000,22000,2 - 2*r⟩],1⟩]
  |4=> [⟨[⟨0,25000,30000,1⟩,⟨1,20000,26000,0⟩,⟨2,0,5000,0⟩],0⟩]
  |5=> [⟨[⟨1,14000,16000,0⟩,⟨2,6000,10000,3⟩],0⟩]
  |6=> [⟨[⟨1,14000,18000,1⟩,⟨3,10000,14000,0⟩],0⟩,⟨[⟨2,14000,21000,1⟩,⟨3,14500,23000,0⟩],0⟩]
  |7=> [⟨[⟨1,14000,18000,1⟩,⟨3,10000,14000,0⟩],1⟩,⟨[⟨2,14000,21000,1⟩,⟨3,14500,23000,0⟩],2⟩]
  |_=> []
def Us (k:Nat)(o o':Int):List Signal:=match k with
  |2=> [jT o 0 1]
  |7=> [jT o 1 3,jT o' 2 3]
  |_=> []
def DR (k:Nat)(p:Par):Map:=⟨p.ver,Mc k p.lim,BM k p.r,Us k p.o p.o',p.wk⟩
theorem UK (n:Int): ∃k p,k<8∧ParOK p∧Zj n=some (DR k p):=by
  obtain ⟨h0,h1⟩:=Kj n (show (0:Int)<16777216 by decide)
  unfold Zj
  rw [UJ (by decide) (by decide),lA]
  generalize n % 16777216=v at h0 h1
  have t: ∀m:Int,0<m→v.tdiv m=v / m:=fun m hm=>by rw [Int.tdiv_eq_ediv_of_nonneg h0]
  have u: ∀x m:Int,0≤x→x.tmod m=x % m:=fun x m hx=>by rw [Int.tmod_eq_emod_of_nonneg hx]
  have d: ∀m:Int,0<m→0≤v / m∧v / m<16777216:=fun m hm=>⟨Int.ediv_nonneg h0 (by omega),Int.lt_of_le_of_lt (Int.ediv_le_self m h0) h1⟩
  have W: ∀m:Int,0<m→C9 (v / m)=v / m:=fun m hm=>E9 (by have:=d m hm;omega)
  rw [t 7 (by decide),t 28 (by decide),t 56 (by decide),t 1736 (by decide),t 5208 (by decide),t 208320 (by decide)]
  rw [W 7 (by decide),W 28 (by decide),W 56 (by decide),W 1736 (by decide),W 5208 (by decide),W 208320 (by decide)]
  rw [u (v / 7) _ (d 7 (by decide)).1,u (v / 28) 2 (d 28 (by decide)).1,u (v / 28) 31 (d 28 (by decide)).1,u (v / 56) 31 (d 56 (by decide)).1,u (v / 56) 17 (d 56 (by decide)).1,u (v / 1736) _ (d 1736 (by decide)).1,u (v / 5208) _ (d 5208 (by decide)).1,u (v / 208320) _ (d 208320 (by decide)).1,u v _ h0,u (v / 28) 5 (d 28 (by decide)).1]
  have b1:=Kj (v / 7) (show (0:Int)<4 by decide)
  have b2:=Kj (v / 28) (show (0:Int)<2 by decide)
  have b3:=Kj (v / 28) (show (0:Int)<31 by decide)
  have b4:=Kj (v / 56) (show (0:Int)<31 by decide)
  have b5:=Kj (v / 56) (show (0:Int)<17 by decide)
  have b6:=Kj (v / 5208) (show (0:Int)<40 by decide)
  have b7:=Kj (v / 208320) (show (0:Int)<3 by decide)
  have b8:=Kj v (show (0:Int)<7 by decide)
  have b9:=Kj (v / 28) (show (0:Int)<5 by decide)
  generalize v / 7 % 4=q1 at b1
  generalize v / 28 % 2=q2 at b2
  generalize v / 28 % 31=q3 at b3
  generalize v / 56 % 31=q4 at b4
  generalize v / 56 % 17=q5 at b5
  generalize v / 5208 % 40=q6 at b6
  generalize v / 208320 % 3=q7 at b7
  generalize v % 7=q8 at b8
  generalize v / 28 % 5=q9 at b9
  have e1: ∃lim:Int,C8 ([1500,600,1000,300]:List Int) q1=some lim∧(lim=1500∨lim=600∨lim=1000∨lim=300):=by
    rcases (show q1=0∨q1=1∨q1=2∨q1=3 by omega)with rfl|rfl|rfl|rfl
    ·exact ⟨1500,rfl,by decide⟩
    ·exact ⟨600,rfl,by decide⟩
    ·exact ⟨1000,rfl,by decide⟩
    ·exact ⟨300,rfl,by decide⟩
  obtain ⟨lim,e1,hlim⟩:=e1
  rw [e1,lA]
  have ew: ∀(L:List Lane) (Z:List Zone) (S:List Signal),∃wk,(wk= []∨∃b l,0≤b∧b<40∧0≤l∧l≤400∧wk= [⟨0,10000,15000,b,b+20,l⟩])∧
   (cond (v / 1736 % 3==1) (some (Map.mk q9 L Z S [(Work.mk 0 10000 15000 q6 (C9 (q6+20)) (C9 (q7*200)))])) (some (Map.mk q9 L Z S [])))=some ⟨q9,L,Z,S,wk⟩:=by
    intro L Z S
    cases v / 1736 % 3==1
    ·exact ⟨[], .inl rfl,rfl⟩
    ·exact ⟨[⟨0,10000,15000,q6,q6+20,q7*200⟩], .inr ⟨q6,q7*200,by omega,by omega,by omega,by omega,rfl⟩,by rw [E9 (by omega),E9 (by omega)];rfl⟩
  have er:C9 (2 - C9 (2*q2))=2 - 2*q2:=by rw [E9 (n:=2*q2) (by omega),E9 (by omega)]
  rw [er]
  simp only [gC,lA]
  have fin: ∀(k:Nat) (o o':Int) (L:List Lane) (Z:List Zone) (S:List Signal),k<8→0≤o∧o<31→0≤o'∧o'<31→L=Mc k lim→Z=BM k q2→S=Us k o o'→∃k p,k<8∧ParOK p∧(cond (v / 1736 % 3==1) (some (Map.mk q9 L Z S [(Work.mk 0 10000 15000 q6 (C9 (q6+20)) (C9 (q7*200)))])) (some (Map.mk q9 L Z S [])))=some (DR k p):=by
    intro k o o' L Z S hk h1 h2 e1 e2 e3
    obtain ⟨wk,w1,w2⟩:=ew L Z S
    subst e1 e2 e3
    exact ⟨k,⟨lim,q2,o,o',q9,wk⟩,hk,⟨hlim,by dsimp only;omega,h1,h2,b9,w1⟩,w2⟩
  rcases (show q8=0∨q8=1∨q8=2∨q8=3∨q8=4∨q8=5∨q8=6 by omega)with rfl|rfl|rfl|rfl|rfl|rfl|rfl
  ·exact fin 0 0 0 _ _ _ (by decide) (by decide) (by decide) rfl rfl rfl
  ·exact fin 1 0 0 _ _ _ (by decide) (by decide) (by decide) rfl rfl rfl
  ·exact fin 2 q3 0 _ _ _ (by decide) b3 (by decide) rfl rfl rfl
  ·exact fin 3 0 0 _ _ _ (by decide) (by decide) (by decide) rfl rfl rfl
  ·exact fin 4 0 0 _ _ _ (by decide) (by decide) (by decide) rfl rfl rfl
  ·exact fin 5 0 0 _ _ _ (by decide) (by decide) (by decide) rfl rfl rfl
  ·rcases (show q2=0∨q2=1 by omega)with rfl|rfl
   ·exact fin 6 0 0 _ _ _ (by decide) (by decide) (by decide) rfl rfl rfl
   ·exact fin 7 q4 q5 _ _ _ (by decide) b4 (by omega) rfl rfl rfl
theorem XS:((List.range 8).all fun k=>([1500,600,1000,300]:List Int).all fun lim=>([0,1]:List Int).all fun r=>(@Az U0) (DR k ⟨lim,r,0,0,0,[]⟩)==some 0)=true:=by decide+kernel
theorem RK (k:Nat)(lim:Int):(Mc k lim).length≤4∧∀l∈Mc k lim,l.Curve_.Pts.length=2∧l.Next.length≤2:=by
  unfold Mc
  split<;>simp [OO]
theorem FU (k:Nat)(r:Int):(BM k r).length≤2∧∀z∈BM k r,z.Parts.length≤3:=by
  unfold BM
  split<;>simp
theorem UL (k:Nat)(o o':Int):(Us k o o').length≤2∧∀s∈Us k o o',s.Phases.length=4∧∀p∈s.Phases,p.Green.length≤1:=by
  unfold Us
  split<;>simp [jT]
theorem VX {m:Map}{k:Nat}{lim r o o':Int}(h1:m.Lanes=Mc k lim)(h2:m.Zones=BM k r)(h3:m.Signals=Us k o o')(h4:m.Works.length≤1):BearM m:=by
  obtain ⟨a1,a2⟩:=RK k lim
  obtain ⟨b1,b2⟩:=FU k r
  obtain ⟨c1,c2⟩:=UL k o o'
  refine ⟨⟨by rw [h1];omega,fun l hl=> ?_⟩,⟨by rw [h3];omega,fun s hs=>⟨?_,fun p hp=> ?_⟩⟩,⟨by rw [h2];omega,fun z hz=> ?_⟩,⟨by omega⟩⟩
  ·rw [h1]at hl;have:=a2 l hl;omega
  ·rw [h3]at hs;have:=(c2 s hs).1;omega
  ·rw [h3]at hs;have:=(c2 s hs).2 p hp;omega
  ·rw [h2]at hz;have:=b2 z hz;omega
theorem ParOK.wk1 {p:Par}(h:ParOK p):p.wk.length≤1:=by
  rcases h.wk with e|⟨b,l,_,_,_,_,e⟩<;>rw [e]<;>simp
theorem dE {k:Nat}{p:Par}(h:ParOK p):BearM (DR k p):=VX rfl rfl rfl h.wk1
theorem kM {k:Nat}{p:Par}(hk:k<8)(h:ParOK p):ValR (DR k ⟨p.lim,p.r,0,0,0,[]⟩):=by
  have h1:=lX.1 XS k (List.mem_range.2 hk)
  have h2:=lX.1 h1 p.lim (by have:=h.lim;simp;omega)
  have h3:=lX.1 h2 p.r (by have:=h.r;simp;omega)
  have h4:=roads_Check_le _ _ (eq_of_beq h3)
  have h5:=Ns (m:=DR k ⟨p.lim,p.r,0,0,0,[]⟩) (VX rfl rfl rfl (bV 1))
  rw [h4]at h5
  exact chkR_zero.1 (lC h5).symm
/-- Another version, other offsets, other works. -/
theorem ValR.change {L:List Lane}{Z:List Zone}{S S':List Signal}{W W':List Work}{v v':Int}(V:ValR ⟨v,L,Z,S,W⟩)(hv:0≤v'∧v'≤1099511627776)(hl:S'.length=S.length)(hs: ∀s∈S',World.signalE ⟨v,L,Z,S,W⟩ 0 s=none)(hw:W'.length≤8)(hw': ∀w∈W',World.workE ⟨v,L,Z,S,W⟩ 0 w=none):ValR ⟨v',L,Z,S',W'⟩:=by
  refine ⟨hv,V.pos,V.lanes,V.zones,by show S'.length≤4;rw [hl];exact V.signals,hw,V.laneE,V.nextE,?_,?_,?_⟩
  ·rw [firstE_none]
   intro j a ha
   exact hs a (lF ha)
  ·have:=V.zoneE
   rw [firstE_none]at this ⊢
   intro j a ha
   have:=this j a ha
   unfold World.zoneE at this ⊢
   dsimp only at this ⊢
   rw [hl]
   exact this
  ·rw [firstE_none]
   intro j a ha
   exact hw' a (lF ha)
theorem XT (k:Nat)(o o' a a':Int):(Us k o o').length=(Us k a a').length:=by unfold Us;split<;>rfl
theorem dF {k:Nat}{o o':Int}(h:0≤o∧o<31)(h':0≤o'∧o'<31){m:Map}(hm:m.Lanes.length=(Mc k 0).length): ∀s∈Us k o o',signalE m 0 s=none:=by
  have key: ∀(off a b:Int),0≤off∧off<31→0≤a∧a<m.Lanes.length→0≤b∧b<m.Lanes.length→signalE m 0 (jT off a b)=none:=by
    intro off a b h1 h2 h3
    unfold signalE jT
    simp only [lJ,lL]
    rw [bG (by decide),bG (by decide),bG (by simp [Ua];omega),bG (by simp [Ua]),bG]
    simp only [List.any_cons,List.any_nil,Ck,Bool.and_true,Bool.or_false,bL,bN,bK,Bool.not_eq_true',not_or,Bool.not_eq_false,bJ,bB]
    omega
  intro s hs
  unfold Us at hs
  split at hs
  ·rw [show (Mc 2 0).length=2 from rfl]at hm
   simp only [l8]at hs
   subst hs
   exact key _ _ _ h (by omega) (by omega)
  ·rw [show (Mc 7 0).length=4 from rfl]at hm
   simp only [lR,List.not_mem_nil,or_false]at hs
   rcases hs with rfl|rfl
   ·exact key _ _ _ h (by omega) (by omega)
   ·exact key _ _ _ h' (by omega) (by omega)
  ·cases hs
theorem UM (k:Nat)(lim:Int):(Mc k lim).length=(Mc k 0).length:=by unfold Mc;split<;>rfl
theorem Zk (c:Int)(h:(@Bv U0) ⟨[⟨0,0⟩,⟨c,0⟩]⟩=some c):Qy ⟨[⟨0,0⟩,⟨c,0⟩]⟩=c:=by
  have h1:=curve_Length_le _ _ h
  rw [Wd _ (by simp)]at h1
  exact lC h1
/-- The first lane of a map of the kit: a road, long enough. -/
theorem FV (k:Nat)(lim:Int): ∃l,(Mc k lim)[0]? =some l∧l.Kind=1∧l.Limit=lim∧20000≤Qy l.Curve_∧Qy l.Curve_≤60000:=by
  have e6:=Zk 60000 (by decide+kernel)
  have e5:=Zk 50000 (by decide+kernel)
  have e3:=Zk 30000 (by decide+kernel)
  have e2:=Zk 20000 (by decide+kernel)
  unfold Mc
  split
  ·exact ⟨_,rfl,rfl,rfl,by show 20000≤Qy ⟨[⟨0,0⟩,⟨60000,0⟩]⟩∧Qy ⟨[⟨0,0⟩,⟨60000,0⟩]⟩≤60000;rw [e6];decide⟩
  ·exact ⟨_,rfl,rfl,rfl,by show 20000≤Qy ⟨[⟨0,0⟩,⟨50000,0⟩]⟩∧Qy ⟨[⟨0,0⟩,⟨50000,0⟩]⟩≤60000;rw [e5];decide⟩
  ·exact ⟨_,rfl,rfl,rfl,by show 20000≤Qy ⟨[⟨0,0⟩,⟨50000,0⟩]⟩∧Qy ⟨[⟨0,0⟩,⟨50000,0⟩]⟩≤60000;rw [e5];decide⟩
  ·exact ⟨_,rfl,rfl,rfl,by show 20000≤Qy ⟨[⟨0,0⟩,⟨30000,0⟩]⟩∧Qy ⟨[⟨0,0⟩,⟨30000,0⟩]⟩≤60000;rw [e3];decide⟩
  ·exact ⟨_,rfl,rfl,rfl,by show 20000≤Qy ⟨[⟨0,0⟩,⟨30000,0⟩]⟩∧Qy ⟨[⟨0,0⟩,⟨30000,0⟩]⟩≤60000;rw [e3];decide⟩
  ·exact ⟨_,rfl,rfl,rfl,by show 20000≤Qy ⟨[⟨0,0⟩,⟨20000,0⟩]⟩∧Qy ⟨[⟨0,0⟩,⟨20000,0⟩]⟩≤60000;rw [e2];decide⟩
  ·exact ⟨_,rfl,rfl,rfl,by show 20000≤Qy ⟨[⟨0,0⟩,⟨20000,0⟩]⟩∧Qy ⟨[⟨0,0⟩,⟨20000,0⟩]⟩≤60000;rw [e2];decide⟩
theorem kN {m:Map}{l:Lane}(hl:m.Lanes[0]? =some l)(hk:l.Kind=1){w:Work}(h:w.Lane_=0∧0≤w.From∧w.From≤w.To∧w.To≤Qy l.Curve_∧0≤w.Begin∧w.Begin<w.End∧w.End≤1099511627776∧0≤w.Limit∧w.Limit≤2000):workE m 0 w=none:=by
  obtain ⟨h1,h2,h3,h4,h5,h6,h7,h8,h9⟩:=h
  have hlen:=K6 hl
  unfold workE R0
  rw [h1,show ((0:Int).toNat)=0 from rfl,hl,bG (by omega),bG]
  simp only [lE,Option.getD_some,Option.get!_some,hk,Ua,Qj,if_true,bK,bB,Bool.not_eq_true',not_or,Bool.not_eq_false,bJ]
  omega
/-- A map of the kit is valid, with such works. -/
theorem dG {k:Nat}{p:Par}(hk:k<8)(h:ParOK p){W:List Work}(hw:W.length≤8)(hW: ∀w∈W,w.Lane_=0∧0≤w.From∧w.From≤w.To∧w.To≤R0 (DR k p) 0∧0≤w.Begin∧w.Begin<w.End∧w.End≤1099511627776∧0≤w.Limit∧w.Limit≤2000):ValR ⟨p.ver,Mc k p.lim,BM k p.r,Us k p.o p.o',W⟩:=by
  have V:=kM hk h
  obtain ⟨l,l1,l2,l3,l4,l5⟩:=FV k p.lim
  have hv:=h.ver
  refine ValR.change (v:=0) (S:=Us k 0 0) (W:= []) V (by omega) (XT k _ _ _ _) (fun s hs=>dF h.o h.o' (by exact UM k p.lim) s hs) hw (fun w hwm=> ?_)
  obtain ⟨a1,a2,a3,a4,a5,a6,a7,a8,a9⟩:=hW w hwm
  refine kN (l:=l) l1 l2 ⟨a1,a2,a3,?_,a5,a6,a7,a8,a9⟩
  have:R0 (DR k p) 0=Qy l.Curve_:=by
    unfold R0 DR
    dsimp only
    rw [show ((0:Int).toNat)=0 from rfl,l1];rfl
  omega
theorem XU (k:Nat)(p:Par):20000≤R0 (DR k p) 0∧R0 (DR k p) 0≤60000:=by
  obtain ⟨l,l1,l2,l3,l4,l5⟩:=FV k p.lim
  unfold R0 DR
  dsimp only
  rw [show ((0:Int).toNat)=0 from rfl,l1]
  exact ⟨l4,l5⟩
theorem gD {k:Nat}{p:Par}(hk:k<8)(h:ParOK p):ValR (DR k p):=by
  have hl:=XU k p
  refine dG hk h (bY h.wk1 (by decide)) (fun w hw=> ?_)
  rcases h.wk with e|⟨b,l,h1,h2,h3,h4,e⟩
  ·rw [e]at hw;cases hw
  ·rw [e]at hw
   simp only [l8]at hw
   subst hw
   dsimp only
   omega
/-! ### Limits -/
end Go.Abs.World
namespace Go.Abs
theorem Rk {α β:Type}{g:Nat→α→Option β}{x:β}: ∀{l:List α} {i:Nat},x∈Bi g i l↔∃j a,l[j]? =some a∧g (i+j) a=some x
  | [],i=>by simp [Bi]
  |a::r,i=>by
   unfold Bi
   have ih:=Rk (g:=g) (x:=x) (l:=r) (i:=i+1)
   have sh:(∃j b,(a::r)[j]? =some b∧g (i+j) b=some x)↔g i a=some x∨∃j b,r[j]? =some b∧g (i+1+j) b=some x:=by
     constructor
     ·rintro ⟨j,b,h1,h2⟩
      cases j with
      |zero=>simp at h1;subst h1;exact .inl h2
      |succ j=>exact .inr ⟨j,b,by simpa using h1,by rwa [show i+1+j=i+ (j+1) by omega]⟩
     ·rintro (h|⟨j,b,h1,h2⟩)
      ·exact ⟨0,a,rfl,h⟩
      ·exact ⟨j+1,b,by simpa using h1,by rwa [show i+ (j+1)=i+1+j by omega]⟩
   rw [sh,← ih]
   cases h:g i a with
   |none=>simp
   |some b=>simp [eq_comm]
end Go.Abs
namespace Go.Abs.World
open Go Go.Abs
end Go.Abs.World
