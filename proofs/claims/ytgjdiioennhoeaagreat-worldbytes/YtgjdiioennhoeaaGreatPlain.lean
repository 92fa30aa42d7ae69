/-
  Plain facts on the functions: what they compute, and that the law holds of it.
-/
import Derived.Test.YtgjdiioennhoeaaGreatFns4
set_option maxRecDepth 100000
set_option synthInstance.maxHeartbeats 0
set_option synthInstance.maxSize 100000
set_option linter.unusedVariables false
namespace Go.Abs.World
open Go Go.Abs
instance (a)(b)(c)(d):Le (@Nf R5 a b c d) (Nf a b c d):=by unfold Nf;infer_instance
instance:Le (@Mq R5) (Mq):=by unfold Mq;infer_instance
instance (a):Le (@Ci R5 a) (Ci a):=by unfold Ci;infer_instance
instance (a):Le (@Jq R5 a) (Jq a):=by unfold Jq;infer_instance
instance curve_root_le (a):Le (@Ds R5 a) (Ds a):=by unfold Ds;infer_instance
instance (a)(b):Le (@Cx R5 a b) (Cx a b):=by unfold Cx;infer_instance
instance (a):Le (@Ff R5 a) (Ff a):=by unfold Ff;infer_instance
instance (a)(b)(c):Le (@Bw R5 a b c) (Bw a b c):=by unfold Bw;infer_instance
instance (a)(b):Le (@V4 R5 a b) (V4 a b):=by unfold V4;infer_instance
instance (a):Le (@Z3 R5 a) (Z3 a):=by unfold Z3;infer_instance
instance (a)(b):Le (@U3 R5 a b) (U3 a b):=by unfold U3;infer_instance
instance (a):Le (@Y1 R5 a) (Y1 a):=by unfold Y1;infer_instance
instance (a):Le (@G3 R5 a) (G3 a):=by unfold G3;infer_instance
instance (a):Le (@F3 R5 a) (F3 a):=by unfold F3;infer_instance
instance (a)(b):Le (@R4 R5 a b) (R4 a b):=by unfold R4;infer_instance
instance (a)(b)(c):Le (@F0 R5 a b c) (F0 a b c):=by unfold F0;infer_instance
instance (a)(b):Le (@F9 R5 a b) (F9 a b):=by unfold F9;infer_instance
instance (a)(b):Le (@F1 R5 a b) (F1 a b):=by unfold F1;infer_instance
instance (a)(b):Le (@S9 R5 a b) (S9 a b):=by unfold S9;infer_instance
instance (a):Le (@X1 R5 a) (X1 a):=by unfold X1;infer_instance
instance piecesGo_le (pts:List Spot): ∀(n i:Nat) (s:Int),Le (@Hb R5 pts n i s) (Hb pts n i s)
  |0,i,s=>Le.refl _
  |n+1,i,s=>by
   unfold Hb
   have:=fun i s=>piecesGo_le pts n i s
   infer_instance -- curve_root_le
instance (a):Le (@Tn R5 a) (Tn a):=by unfold Tn;infer_instance
instance (a):Le (@Fy R5 a) (Fy a):=by unfold Fy;infer_instance
instance (a):Le (@Fz R5 a) (Fz a):=by unfold Fz;infer_instance
instance (a)(b):Le (@Dt R5 a b) (Dt a b):=by unfold Dt;infer_instance
instance (a)(b)(c):Le (@V5 R5 a b c) (V5 a b c):=by unfold V5;infer_instance
instance (a)(b):Le (@V6 R5 a b) (V6 a b):=by unfold V6;infer_instance
instance (a):Le (@Z4 R5 a) (Z4 a):=by unfold Z4;infer_instance
instance (a)(b):Le (@V7 R5 a b) (V7 a b):=by unfold V7;infer_instance
instance (a):Le (@Z5 R5 a) (Z5 a):=by unfold Z5;infer_instance
instance (a)(b):Le (@P7 R5 a b) (P7 a b):=by unfold P7;infer_instance
instance (a)(b):Le (@Cy R5 a b) (Cy a b):=by unfold Cy;infer_instance
instance (a):Le (@Dn R5 a) (Dn a):=by unfold Dn;infer_instance
instance (a)(b):Le (@R9 R5 a b) (R9 a b):=by unfold R9;infer_instance
instance (a)(b):Le (@O1 R5 a b) (O1 a b):=by unfold O1;infer_instance
instance (a)(b)(c):Le (@Bh R5 a b c) (Bh a b c):=by unfold Bh;infer_instance
instance (a)(b):Le (@Ga R5 a b) (Ga a b):=by unfold Ga;infer_instance
instance (a)(b)(c):Le (@X2 R5 a b c) (X2 a b c):=by unfold X2;infer_instance
instance (a)(b):Le (@Y2 R5 a b) (Y2 a b):=by unfold Y2;infer_instance
instance (a)(b)(c):Le (@Bi R5 a b c) (Bi a b c):=by unfold Bi;infer_instance
instance (a)(b):Le (@Ac R5 a b) (Ac a b):=by unfold Ac;infer_instance
instance (a)(b):Le (@W9 R5 a b) (W9 a b):=by unfold W9;infer_instance
instance (a)(b):Le (@Bx R5 a b) (Bx a b):=by unfold Bx;infer_instance
instance (a)(b):Le (@Hr R5 a b) (Hr a b):=by unfold Hr;infer_instance
instance (a)(b):Le (@Ht R5 a b) (Ht a b):=by unfold Ht;infer_instance
instance (a)(b)(c):Le (@Ai R5 a b c) (Ai a b c):=by unfold Ai;infer_instance
instance (a):Le (@Fi R5 a) (Fi a):=by unfold Fi;infer_instance
instance (a)(b):Le (@Do R5 a b) (Do a b):=by unfold Do;infer_instance
instance (a)(b):Le (@J8 R5 a b) (J8 a b):=by unfold J8;infer_instance
instance (a)(b):Le (@I8 R5 a b) (I8 a b):=by unfold I8;infer_instance
instance (a)(b)(c):Le (@Db R5 a b c) (Db a b c):=by unfold Db;infer_instance
instance (a)(b)(c):Le (@Dc R5 a b c) (Dc a b c):=by unfold Dc;infer_instance
instance (a)(b):Le (@Dp R5 a b) (Dp a b):=by unfold Dp;infer_instance
instance (a):Le (@K2 R5 a) (K2 a):=by unfold K2;infer_instance
instance (a):Le (@J1 R5 a) (J1 a):=by unfold J1;infer_instance
instance (a)(b):Le (@Dd R5 a b) (Dd a b):=by unfold Dd;infer_instance
instance (a)(b):Le (@F5 R5 a b) (F5 a b):=by unfold F5;infer_instance
instance (a)(b)(c):Le (@F6 R5 a b c) (F6 a b c):=by unfold F6;infer_instance
instance (a)(b)(c):Le (@E8 R5 a b c) (E8 a b c):=by unfold E8;infer_instance
instance (a)(b)(c):Le (@I4 R5 a b c) (I4 a b c):=by unfold I4;infer_instance
instance (a)(b):Le (@I5 R5 a b) (I5 a b):=by unfold I5;infer_instance
instance (a)(b):Le (@J4 R5 a b) (J4 a b):=by unfold J4;infer_instance
instance (a):Le (@G8 R5 a) (G8 a):=by unfold G8;infer_instance
instance (a)(b)(c):Le (@F7 R5 a b c) (F7 a b c):=by unfold F7;infer_instance
instance (a)(b):Le (@E9 R5 a b) (E9 a b):=by unfold E9;infer_instance
instance (a)(b):Le (@I6 R5 a b) (I6 a b):=by unfold I6;infer_instance
instance (a)(b):Le (@I7 R5 a b) (I7 a b):=by unfold I7;infer_instance
instance (a):Le (@J5 R5 a) (J5 a):=by unfold J5;infer_instance
instance:Le (@G9 R5) (G9):=by unfold G9;infer_instance
instance (a)(b)(c)(d)(e):Le (@Bl R5 a b c d e) (Bl a b c d e):=by unfold Bl;infer_instance
instance (a)(b)(c):Le (@Bm R5 a b c) (Bm a b c):=by unfold Bm;infer_instance
instance (a)(b):Le (@Dw R5 a b) (Dw a b):=by unfold Dw;infer_instance
instance (a)(b)(c):Le (@I9 R5 a b c) (I9 a b c):=by unfold I9;infer_instance
instance (a)(b)(c):Le (@H5 R5 a b c) (H5 a b c):=by unfold H5;infer_instance
instance (a)(b)(c)(d):Le (@Ei R5 a b c d) (Ei a b c d):=by unfold Ei;infer_instance
instance (a)(b)(c):Le (@O0 R5 a b c) (O0 a b c):=by unfold O0;infer_instance
instance (a)(b)(c):Le (@F4 R5 a b c) (F4 a b c):=by unfold F4;infer_instance
instance (a)(b):Le (@D5 R5 a b) (D5 a b):=by unfold D5;infer_instance
instance (a)(b):Le (@K3 R5 a b) (K3 a b):=by unfold K3;infer_instance
instance (a)(b):Le (@Jr R5 a b) (Jr a b):=by unfold Jr;infer_instance
instance (a)(b)(c):Le (@Z6 R5 a b c) (Z6 a b c):=by unfold Z6;infer_instance
instance (a)(b)(c)(d):Le (@J2 R5 a b c d) (J2 a b c d):=by unfold J2;infer_instance
instance (a)(b)(c):Le (@K4 R5 a b c) (K4 a b c):=by unfold K4;infer_instance
instance (a)(b)(c):Le (@Ij R5 a b c) (Ij a b c):=by unfold Ij;infer_instance
instance (a)(b)(c):Le (@Dq R5 a b c) (Dq a b c):=by unfold Dq;infer_instance
instance (a)(b):Le (@Ks R5 a b) (Ks a b):=by unfold Ks;infer_instance
instance (a)(b)(c):Le (@De R5 a b c) (De a b c):=by unfold De;infer_instance
instance (a)(b)(c):Le (@Fj R5 a b c) (Fj a b c):=by unfold Fj;infer_instance
instance (a)(b)(c)(d):Le (@Ik R5 a b c d) (Ik a b c d):=by unfold Ik;infer_instance
instance (a)(b):Le (@K5 R5 a b) (K5 a b):=by unfold K5;infer_instance
instance (a)(b)(c)(d):Le (@Hu R5 a b c d) (Hu a b c d):=by unfold Hu;infer_instance
instance (a)(b)(c)(d):Le (@T0 R5 a b c d) (T0 a b c d):=by unfold T0;infer_instance
instance (a)(b):Le (@T1 R5 a b) (T1 a b):=by unfold T1;infer_instance
instance (a):Le (@X3 R5 a) (X3 a):=by unfold X3;infer_instance
instance (a)(b):Le (@Ca R5 a b) (Ca a b):=by unfold Ca;infer_instance
instance (a)(b)(c)(d):Le (@Ej R5 a b c d) (Ej a b c d):=by unfold Ej;infer_instance
instance (a)(b):Le (@Hv R5 a b) (Hv a b):=by unfold Hv;infer_instance
instance (a)(b):Le (@I0 R5 a b) (I0 a b):=by unfold I0;infer_instance
instance (a)(b):Le (@G5 R5 a b) (G5 a b):=by unfold G5;infer_instance
instance (a)(b):Le (@Y3 R5 a b) (Y3 a b):=by unfold Y3;infer_instance
instance (a)(b)(c):Le (@H6 R5 a b c) (H6 a b c):=by unfold H6;infer_instance
instance (a)(b):Le (@J0 R5 a b) (J0 a b):=by unfold J0;infer_instance
instance (a)(b):Le (@H7 R5 a b) (H7 a b):=by unfold H7;infer_instance
instance (a)(b)(c):Le (@Df R5 a b c) (Df a b c):=by unfold Df;infer_instance
instance (a)(b)(c)(d):Le (@T9 R5 a b c d) (T9 a b c d):=by unfold T9;infer_instance
instance (a)(b)(c)(d):Le (@Gc R5 a b c d) (Gc a b c d):=by unfold Gc;infer_instance
instance (a)(b)(c)(d)(e):Le (@Gd R5 a b c d e) (Gd a b c d e):=by unfold Gd;infer_instance
instance (a)(b):Le (@Mr R5 a b) (Mr a b):=by unfold Mr;infer_instance
instance (a)(b)(c):Le (@L0 R5 a b c) (L0 a b c):=by unfold L0;infer_instance
instance (a)(b)(c):Le (@M0 R5 a b c) (M0 a b c):=by unfold M0;infer_instance
instance (a)(b):Le (@M8 R5 a b) (M8 a b):=by unfold M8;infer_instance
instance (a)(b)(c)(d):Le (@O2 R5 a b c d) (O2 a b c d):=by unfold O2;infer_instance
instance (a):Le (@Q7 R5 a) (Q7 a):=by unfold Q7;infer_instance
instance (a)(b)(c):Le (@L3 R5 a b c) (L3 a b c):=by unfold L3;infer_instance
instance (a)(b):Le (@M1 R5 a b) (M1 a b):=by unfold M1;infer_instance
instance (a):Le (@M9 R5 a) (M9 a):=by unfold M9;infer_instance
instance (a)(b)(c):Le (@O3 R5 a b c) (O3 a b c):=by unfold O3;infer_instance
instance:Le (@Q8 R5) (Q8):=by unfold Q8;infer_instance
instance (a)(b)(c)(d)(e):Le (@Gf R5 a b c d e) (Gf a b c d e):=by unfold Gf;infer_instance
instance (a)(b)(c)(d):Le (@Gg R5 a b c d) (Gg a b c d):=by unfold Gg;infer_instance
instance (a)(b)(c):Le (@Ms R5 a b c) (Ms a b c):=by unfold Ms;infer_instance
instance (a)(b)(c):Le (@Mt R5 a b c) (Mt a b c):=by unfold Mt;infer_instance
instance (a)(b)(c)(d)(e):Le (@I3 R5 a b c d e) (I3 a b c d e):=by unfold I3;infer_instance
instance (a)(b)(c)(d)(e):Le (@G6 R5 a b c d e) (G6 a b c d e):=by unfold G6;infer_instance
instance (a)(b)(c)(d)(e):Le (@Il R5 a b c d e) (Il a b c d e):=by unfold Il;infer_instance
instance (a)(b)(c)(d)(e):Le (@Ek R5 a b c d e) (Ek a b c d e):=by unfold Ek;infer_instance
instance (a)(b)(c)(d):Le (@Js R5 a b c d) (Js a b c d):=by unfold Js;infer_instance
instance (a)(b)(c)(d):Le (@Jt R5 a b c d) (Jt a b c d):=by unfold Jt;infer_instance
instance (a):Le (@El R5 a) (El a):=by unfold El;infer_instance
instance (a)(b)(c):Le (@U0 R5 a b c) (U0 a b c):=by unfold U0;infer_instance
instance (a)(b)(c):Le (@U9 R5 a b c) (U9 a b c):=by unfold U9;infer_instance
instance (a)(b)(c)(d)(e)(f)(g)(h):Le (@Dg R5 a b c d e f g h) (Dg a b c d e f g h):=by unfold Dg;infer_instance
instance (a)(b)(c)(d)(e)(f)(g)(h):Le (@Fo R5 a b c d e f g h) (Fo a b c d e f g h):=by unfold Fo;infer_instance
instance (a)(b)(c)(d)(e)(f)(g)(h)(i):Le (@Dh R5 a b c d e f g h i) (Dh a b c d e f g h i):=by unfold Dh;infer_instance
instance (a)(b)(c)(d)(e)(f)(g)(h):Le (@Hc R5 a b c d e f g h) (Hc a b c d e f g h):=by unfold Hc;infer_instance
instance (a)(b)(c)(d)(e)(f)(g)(h):Le (@Em R5 a b c d e f g h) (Em a b c d e f g h):=by unfold Em;infer_instance
instance (a)(b)(c)(d)(e)(f):Le (@Hd R5 a b c d e f) (Hd a b c d e f):=by unfold Hd;infer_instance
instance (a)(b)(c)(d)(e)(f)(g)(h):Le (@En R5 a b c d e f g h) (En a b c d e f g h):=by unfold En;infer_instance
instance (a)(b)(c)(d)(e)(f):Le (@Eo R5 a b c d e f) (Eo a b c d e f):=by unfold Eo;infer_instance
instance (a)(b)(c)(d)(e):Le (@He R5 a b c d e) (He a b c d e):=by unfold He;infer_instance
instance (a)(b)(c)(d):Le (@Ep R5 a b c d) (Ep a b c d):=by unfold Ep;infer_instance
instance (a)(b)(c)(d):Le (@Hf R5 a b c d) (Hf a b c d):=by unfold Hf;infer_instance
instance (a)(b)(c):Le (@Jv R5 a b c) (Jv a b c):=by unfold Jv;infer_instance
instance law04_awake_le:Le (@Dr R5) (Dr):=by unfold Dr;infer_instance
theorem Ho (n:Int): ∃y,Ds n=some (y,y*y==n)∧0≤y∧y≤67108864∧(∀m,0≤m→m<y→m*m<n)∧(y=67108864∨n≤y*y):=by
  have key:=RY (f:=Ha n) (fun x=>0≤x.1∧x.1≤x.2∧x.2≤67108864∧(∀m,0≤m→m<x.1→m*m<n)∧(x.2=67108864∨n≤x.2*x.2)) (fun x=>(x.2 - x.1).toNat)
    (fun y=>0≤y∧y≤67108864∧(∀m,0≤m→m<y→m*m<n)∧(y=67108864∨n≤y*y)) (by
      rintro ⟨lo,hi⟩ ⟨h1,h2,h3,h4,h5⟩
      dsimp only at h1 h2 h3 h4 h5
      unfold Ha
      dsimp only
      by_cases hlt:lo<hi
      ·have e1:J6 (lo+hi)=lo+hi:=Jn (by omega)
       have e2:J6 ((lo+hi).tdiv 2)=(lo+hi) / 2:=by rw [Int.tdiv_eq_ediv_of_nonneg (by omega)];exact Jn (by omega)
       have hm:lo≤(lo+hi) / 2∧(lo+hi) / 2<hi:=by omega
       generalize hmid:(lo+hi) / 2=mid at*
       have hmm:mid*mid≤67108864*67108864:=XU (by omega) (by omega)
       have hmm0:=DH mid
       have e3:J6 (mid*mid)=mid*mid:=Jn (by omega)
       have e4:J6 (mid+1)=mid+1:=Jn (by omega)
       simp only [e1,e2,e3,e4,hlt,decide_true,l9]
       by_cases hc:mid*mid<n
       ·simp only [hc,decide_true,l9]
        refine ⟨_,rfl,⟨by omega,by omega,h3,fun m hm0 hm1=> ?_,h5⟩,by dsimp only;omega⟩
        rcases Int.lt_or_le m mid with q|q
        ·have:=Int.mul_le_mul (show m≤mid by omega) (show m≤mid by omega) hm0 (by omega);omega
        ·have:m=mid:=by dsimp only at hm1;omega
         subst this;exact hc
       ·simp only [hc,decide_false,bA]
        exact ⟨_,rfl,⟨h1,by dsimp only;omega,by dsimp only;omega,h4, .inr (by dsimp only;omega)⟩,by dsimp only;omega⟩
      ·simp only [hlt,decide_false,bA]
       obtain rfl:lo=hi:=by omega
       exact ⟨_,rfl,h1,h3,h4,h5⟩) (0,67108864) ⟨by decide,by decide,by decide,fun m h1 h2=>by dsimp only at h2;omega, .inl rfl⟩
  obtain ⟨y,hy,h1,h2,h3,h4⟩:=key
  refine ⟨y,?_,h1,h2,h3,h4⟩
  have hmm:y*y≤67108864*67108864:=XU (by omega) (by omega)
  have hmm0:=DH y
  unfold Ds
  rw [hy,lA,Jn (by omega)]
/-- The least number whose square is not less. -/
noncomputable def rt (n:Int):Int:=(Ho n).choose
theorem OX (n:Int):0≤rt n:=(Ho n).choose_spec.2.1
theorem aD (n m:Int)(h1:0≤m)(h2:m<rt n):m*m<n:=(Ho n).choose_spec.2.2.2.1 m h1 h2
theorem aE (n:Int):rt n=67108864∨n≤rt n*rt n:=(Ho n).choose_spec.2.2.2.2
theorem cF {l:Int}(h0:0≤l)(h1:l≤67108864):rt (l*l)=l:=by
  rcases Int.lt_trichotomy (rt (l*l)) l with q|q|q
  ·rcases aE (l*l)with h|h
   ·omega
   ·have h2:=OX (l*l)
    have:=Int.mul_lt_mul' (show rt (l*l)≤l by omega) q h2 (by omega);omega
  ·exact q
  ·have:=aD (l*l) l h0 q;omega
def cY (p:Spot):Bool:=decide (-16777216≤p.X)&&decide (p.X≤16777216)&&decide (-16777216≤p.Y)&&decide (p.Y≤16777216)
theorem okS_iff {p:Spot}:cY p=true↔ -16777216≤p.X∧p.X≤16777216∧ -16777216≤p.Y∧p.Y≤16777216:=by simp [cY,and_assoc]
def Jz (p q:Spot):CurveVector:=⟨q.X - p.X,q.Y - p.Y⟩
def Hz (v w:CurveVector):Int:=v.x*w.x+v.y*w.y
/-- The error of a chain of points, from a piece on; the piece ahead of it. -/
noncomputable def WN:Option CurveVector→List Spot→Int
  |last,p::q::r=>
   if rt (Hz (Jz p q) (Jz p q))*rt (Hz (Jz p q) (Jz p q))≠Hz (Jz p q) (Jz p q)then 3
   else if rt (Hz (Jz p q) (Jz p q))<1000∨rt (Hz (Jz p q) (Jz p q))>1048576 then 2
   else match last with
     |some u=>if Hz u (Jz p q)≤0 then 12 else WN (some (Jz p q)) (q::r)
     |none=>WN (some (Jz p q)) (q::r)
  |_,_=>0
theorem IF (last:Option CurveVector)(p q:Spot)(r:List Spot):WN last (p::q::r)=
    if rt (Hz (Jz p q) (Jz p q))*rt (Hz (Jz p q) (Jz p q))≠Hz (Jz p q) (Jz p q)then 3
    else if rt (Hz (Jz p q) (Jz p q))<1000∨rt (Hz (Jz p q) (Jz p q))>1048576 then 2
    else match last with
      |some u=>if Hz u (Jz p q)≤0 then 12 else WN (some (Jz p q)) (q::r)
      |none=>WN (some (Jz p q)) (q::r):=by
  conv=>lhs;unfold WN
noncomputable def Vb (l:List Spot):Int:=if l.length<2 then 6 else if l.length>16 then 5 else if l.all cY then WN none l else 2
/-- What a valid chain is. -/
inductive Good:Option CurveVector→List Spot→Prop
  |one (last:Option CurveVector) (p:Spot):Good last [p]
  |cons (last:Option CurveVector) (p q:Spot) (r:List Spot) (h1:rt (Hz (Jz p q) (Jz p q))*rt (Hz (Jz p q) (Jz p q))=Hz (Jz p q) (Jz p q)) (h2:1000≤rt (Hz (Jz p q) (Jz p q))) (h3:rt (Hz (Jz p q) (Jz p q))≤1048576)
     (h4: ∀u,last=some u→0<Hz u (Jz p q)) (h:Good (some (Jz p q)) (q::r)):Good last (p::q::r)
theorem IG: ∀(r:List Spot) (p:Spot) (last:Option CurveVector),WN last (p::r)=0→Good last (p::r):=by
  intro r
  induction r with
  |nil=>intro p last _;exact .one _ _
  |cons q r ih=>
   intro p last h
   rw [IF]at h
   split at h
   ·cases h
   ·rename_i h1
    split at h
    ·cases h
    ·rename_i h2
     have h1:rt (Hz (Jz p q) (Jz p q))*rt (Hz (Jz p q) (Jz p q))=Hz (Jz p q) (Jz p q):=by simpa using h1
     cases last with
     |none=>exact .cons _ _ _ _ h1 (by omega) (by omega) (fun u hu=>by cases hu) (ih q _ h)
     |some u=>
      dsimp only at h
      split at h
      ·cases h
      ·exact .cons _ _ _ _ h1 (by omega) (by omega) (fun u' hu=>by cases hu;omega) (ih q _ h)
theorem IH {last:Option CurveVector}{l:List Spot}(h:Good last l):WN last l=0:=by
  induction h with
  |one=>rfl
  |cons last p q r h1 h2 h3 h4 h ih=>
   rw [IF,bC (by simpa using h1),bC (by omega)]
   cases last with
   |none=>exact ih
   |some u=>dsimp only;rw [bC (by have:=h4 u rfl;omega)];exact ih
structure Valid (l:List Spot):Prop where
  two:2≤l.length
  most:l.length≤16
  ok:l.all cY=true
  good:Good none l
theorem checkM_zero {l:List Spot}:Vb l=0↔Valid l:=by
  unfold Vb
  constructor
  ·intro h
   split at h
   ·cases h
   ·rename_i h1
    split at h
    ·cases h
    ·rename_i h2
     split at h
     ·rename_i h3
      cases l with
      |nil=>simp at h1
      |cons p r=>exact ⟨by omega,by omega,h3,IG r p none h⟩
     ·cases h
  ·rintro ⟨h1,h2,h3,h4⟩
   rw [bC (by omega),bC (by omega),bB h3]
   exact IH h4
/-- The lengths. -/
noncomputable def FN:List Spot→List Int
  |p::q::r=>rt (Hz (Jz p q) (Jz p q))::FN (q::r)
  |_=> []
theorem Xi (p q:Spot)(r:List Spot):FN (p::q::r)=rt (Hz (Jz p q) (Jz p q))::FN (q::r):=by conv=>lhs;unfold FN
theorem Ya: ∀(r:List Spot) (p:Spot),(FN (p::r)).length=r.length
  | [],_=>rfl
  |q::r,p=>by rw [Xi,lJ,Ya r q,lJ]
/-- A sum, as the programs take it. -/
def LA:Int→List Int→Int
  |s,[]=>s
  |s,a::l=>LA (J6 (s+a)) l
noncomputable def MV (c:Curve):List Int:=if Vb c.Pts=0 then FN c.Pts else []
/-- A quarter turn, so many times. -/
def OY:Nat→CurveVector→CurveVector
  |0,v=>v
  |n+1,v=>OY n ⟨-v.y,v.x⟩
theorem FO: ∀(n:Nat) (v w:CurveVector),Hz (OY n v) (OY n w)=Hz v w
  |0,_,_=>rfl
  |n+1,v,w=>by rw [OY,OY,FO n];unfold Hz;grind
/-- A piece's vector, made of numbers: in one quadrant. -/
def aF (n:Nat)(v:CurveVector):Prop:= ∃x y L:Int,v=OY n ⟨x,y⟩∧0<x∧0≤y∧x*x+y*y=L*L∧1000≤L∧L≤3029∧x≤L∧y≤L
inductive Ch (Q:CurveVector→Prop):List Spot→Prop
  |one (p:Spot):Ch Q [p]
  |cons (p q:Spot) (r:List Spot) (h:Q (Jz p q)) (hr:Ch Q (q::r)):Ch Q (p::q::r)
theorem BG {n:Nat}: ∀(r:List Spot) (p:Spot) (last:Option CurveVector),Ch (aF n) (p::r)→(∀u,last=some u→aF n u)→Good last (p::r)
  | [],p,last,_,_=> .one _ _
  |q::r,p,last,hc,hl=>by
   cases hc with
   |cons _ _ _ h1 h2=>
    have hq:=h1
    obtain ⟨x,y,L,hv,hx,hy,hsq,hL1,hL2,hxL,hyL⟩:=h1
    have hd:Hz (Jz p q) (Jz p q)=L*L:=by rw [hv,FO];unfold Hz;exact hsq
    have hrt:rt (Hz (Jz p q) (Jz p q))=L:=by rw [hd];exact cF (by omega) (by omega)
    refine .cons _ _ _ _ (by rw [hrt,hd]) (by rw [hrt];exact hL1) (by rw [hrt];omega) (fun u hu=> ?_) (BG r q _ h2 (fun u hu=>by cases hu;exact hq))
    obtain ⟨x',y',L',hv',hx',hy',_⟩:=hl u hu
    rw [hv,hv',FO]
    unfold Hz
    have:=Int.mul_pos hx' hx
    have:=Int.mul_nonneg hy' hy
    dsimp only
    omega
/-- What the curves made of numbers are like. -/
structure Made (l:List Spot):Prop where
  two:2≤l.length
  six:l.length≤6
  ch: ∃n,Ch (aF n) l
  bd: ∀p∈l, -50000≤p.X∧p.X≤50000∧ -50000≤p.Y∧p.Y≤50000
theorem Made.valid {l:List Spot}(h:Made l):Valid l:=by
  obtain ⟨n,hc⟩:=h.ch
  have:=h.two;have:=h.six
  refine ⟨h.two,by omega,lX.2 fun p hp=>okS_iff.2 (by have:=h.bd p hp;omega),?_⟩
  match l,h,hc with
  |p::r,_,hc=>exact BG r p none hc (fun u hu=>by cases hu)
  | [],h,_=>exact absurd h.two (by simp)
/-! ### Loops that look for the first error -/
def X6 {α β:Type}(g:Nat→α→Option β):Nat→List α→Option β
  |_,[]=>none
  |i,a::r=>match g i a with
   |some e=>some e
   |none=>X6 g (i+1) r
def cG {β:Type}:Option β→Sum Unit β
  |some e=> .inr e
  |none=> .inl ()
theorem OZ {α β:Type}(l:List α)(F:Int→Option (Stp Int (Sum Unit β)))(g:Nat→α→Option β)(hF: ∀(i:Nat) a,l[i]? =some a→F (i:Int)=some (match g i a with|some e=> .out (.inr e)|none=> .go ((i+1:Nat):Int)))(h0:F (l.length:Int)=some (.out (.inl ()))):
    loop F 0=some (cG (X6 g 0 l)):=by
  have key: ∀(r:List α) (i:Nat),l.drop i=r→i≤l.length→loop F (i:Int)=some (cG (X6 g i r)):=by
    intro r
    induction r with
    |nil=>
     intro i hi hil
     have:i=l.length:=by have:=List.drop_eq_nil_iff.1 hi;omega
     subst this
     exact Gx h0
    |cons a r ih=>
     intro i hi hil
     have hlt:i<l.length:=by
       rcases Nat.lt_or_ge i l.length with q|q
       ·exact q
       ·rw [List.drop_eq_nil_of_le q]at hi;cases hi
     have ha:l[i]? =some a:=by have:=congrArg (fun z=>z[0]?) hi;simpa using this
     have hr:l.drop (i+1)=r:=by have:=congrArg (fun z=>z.drop 1) hi;simpa using this
     have hs:=hF i a ha
     unfold X6
     cases hg:g i a with
     |some e=>rw [hg]at hs;exact Gx hs
     |none=>rw [hg]at hs;rw [Tl hs];exact ih (i+1) hr (by omega)
  have:=key l 0 rfl (by omega)
  exact this
theorem firstE_none {α β:Type}{g:Nat→α→Option β}: ∀{l:List α} {i:Nat},X6 g i l=none↔∀(j:Nat) a,l[j]? =some a→g (i+j) a=none
  | [],i=>by simp [X6]
  |a::r,i=>by
   unfold X6
   cases h:g i a with
   |some e=>
    constructor
    ·intro h';cases h'
    ·intro h';have:=h' 0 a rfl;rw [Nat.add_zero,h]at this;cases this
   |none=>
    dsimp only
    rw [firstE_none (l:=r)]
    constructor
    ·intro h' j b hj
     cases j with
     |zero=>cases hj;exact h
     |succ j=>have:=h' j b hj;rwa [show i+1+j=i+ (j+1) by omega]at this
    ·intro h' j b hj
     have:=h' (j+1) b hj
     rwa [show i+ (j+1)=i+1+j by omega]at this
/-! ### Numbers -/
def LB (n a b:Int):Bool:=decide (a≤n)&&decide (n≤b)
def PA (kind:Int):Int×Int×Int:=if kind=1 then (2000,30,90)else if kind=2 then (1000,20,60)else if kind=3 then (300,100,300)else (0,0,0)
theorem Q6 {α:Type}{l:List α}{i:Nat}{a:α}(h:l[i]? =some a):F2 l (i:Int)=some a:=by
  unfold F2;rw [bB (by omega),bJ];exact h
theorem V0 {α:Type}{l:List α}{i:Nat}{a:α}(h:l[i]? =some a):i<l.length:=(lH.1 h).1
def Yb (high:Int):Int→List Int→Bool
  |_,[]=>true
  |low,n::r=>decide (low≤n)&&decide (n<high)&&Yb high (n+1) r
noncomputable def WO (c:Curve):Int:=LA 0 (MV c)
/-- The lists of a map are of bearable lengths. -/
structure Bear (m:Map):Prop where
  lanes:m.Lanes.length≤1000000
  pts: ∀l∈m.Lanes,l.Curve_.Pts.length≤1000000∧l.Next.length≤1000000
noncomputable def laneE (n:Nat)(i:Nat)(l:Lane):Option Int:=
  if (PA l.Kind).1=0 then some 4
  else if Vb l.Curve_.Pts≠0 then some (Vb l.Curve_.Pts)
  else if (LB l.Half 200 4000&&LB l.Limit 1 (PA l.Kind).1)=false then some 2
  else if 3<l.Next.length then some 8
  else if Yb n (i+1) l.Next=false then some 11 else none
theorem TA {n i:Nat}{l:Lane}{e:Int}(h:laneE n i l=some e):e≠0:=by
  unfold laneE at h
  split at h
  ·cases h;decide
  ·split at h
   ·rename_i h2;cases h;exact h2
   ·split at h
    ·cases h;decide
    ·split at h
     ·cases h;decide
     ·split at h
      ·cases h;decide
      ·cases h
theorem Xj {high:Int}: ∀{l:List Int} {low:Int},Yb high low l=true→∀k∈l,low≤k∧k<high
  | [],_,_,k,hk=>by cases hk
  |n::r,low,h,k,hk=>by
   unfold Yb at h
   simp only [bD,l8]at h
   rcases lS.1 hk with rfl|hk
   ·exact h.1
   ·have:=Xj h.2 k hk
    omega
/-- What a lane is that has no error of its own. -/
structure LaneOK (n i:Nat)(l:Lane):Prop where
  kind:(PA l.Kind).1≠0
  curve:Vb l.Curve_.Pts=0
  half:LB l.Half 200 4000=true
  limit:LB l.Limit 1 (PA l.Kind).1=true
  few:l.Next.length≤3
  next:Yb n (i+1) l.Next=true
theorem LC {n i:Nat}{l:Lane}(h:laneE n i l=none):LaneOK n i l:=by
  unfold laneE at h
  split at h
  ·cases h
  ·rename_i h1
   split at h
   ·cases h
   ·rename_i h2
    split at h
    ·cases h
    ·rename_i h3
     split at h
     ·cases h
     ·rename_i h4
      split at h
      ·cases h
      ·rename_i h5
       simp only [Bool.not_eq_false,bD]at h3
       exact ⟨h1,Decidable.not_not.1 h2,h3.1,h3.2,by omega,by simpa using h5⟩
theorem TB {m:Map}(h:X6 (laneE m.Lanes.length) 0 m.Lanes=none){i:Nat}{l:Lane}(hl:m.Lanes[i]? =some l):LaneOK m.Lanes.length i l:=by
  have:=firstE_none.1 h i l hl
  rw [bN]at this
  exact LC this
def cH (l:List Spot):Spot:=l.headD ⟨0,0⟩
def cI (l:List Spot):Spot:=l.getLastD ⟨0,0⟩
def cJ (a b:Spot):Bool:=a.X==b.X&& (a.Y==b.Y&&true)
def LD (m:Map)(l:Lane)(_:Nat)(k:Int):Option Int:=
  match m.Lanes[k.toNat]? with
  |some n=>if n.Kind≠l.Kind then some 4 else if cJ (cH n.Curve_.Pts) (cI l.Curve_.Pts)=false then some 3 else none
  |none=>none
def MW (m:Map)(_:Nat)(l:Lane):Option Int:=X6 (LD m l) 0 l.Next
theorem PB {m:Map}{l:Lane}{j:Nat}{k e:Int}(h:LD m l j k=some e):e≠0:=by
  unfold LD at h
  split at h
  ·split at h
   ·cases h;decide
   ·split at h
    ·cases h;decide
    ·cases h
  ·cases h
/-- -1, or the place. -/
def dM {α:Type}(P:α→Bool)(l:List α):Int:=match l.findIdx? P with|some i=>(i:Int)|none=> -1
structure BearS (m:Map):Prop where
  many:m.Signals.length≤1000000
  phases: ∀s∈m.Signals,s.Phases.length≤1000000∧∀p∈s.Phases,p.Green.length≤1000000
def signalE (m:Map)(_:Nat)(s:Signal):Option Int:=
  if s.Phases.length=0 then some 6
  else if 6<s.Phases.length then some 8
  else if LB s.Offset 0 1099511627776=false then some 2
  else if (s.Phases.any fun p=> !LB p.Ticks 1 10000)=true then some 2
  else if (s.Phases.any fun p=> !Yb m.Lanes.length 0 p.Green)=true then some 11 else none
end Go.Abs.World
/-! Loops over lists, as functions on lists. -/
namespace Go.Abs
open Go
section
variable {α β σ S τ:Type}
/-- What a loop over a list makes, with a state, and with a way out. -/
def DU (step:Nat→σ→α→Sum σ τ)(fin:σ→τ):Nat→σ→List α→τ
  |_,s,[]=>fin s
  |i,s,a::r=>match step i s a with
   | .inl s'=>DU step fin (i+1) s' r
   | .inr t=>t
theorem II {l:List α}{i:Nat}{a:α}{r:List α}(h:l.drop i=a::r):l[i]? =some a:=by
  have:=congrArg (fun z=>z[0]?) h
  simpa using this
theorem cK {F:S→Option (Stp S τ)}(pk:Nat→σ→S)(l:List α)(inv:Nat→σ→Prop)(step:Nat→σ→α→Sum σ τ)(fin:σ→τ){s0:σ}{S0:S}(hS:pk 0 s0=S0)(hi:inv 0 s0)
    (hF: ∀i a s,l[i]? =some a→inv i s→F (pk i s)=some (match step i s a with| .inl s'=> .go (pk (i+1) s')| .inr t=> .out t))
    (hI: ∀i a s s',l[i]? =some a→inv i s→step i s a= .inl s'→inv (i+1) s')
    (h0: ∀s,inv l.length s→F (pk l.length s)=some (.out (fin s))):loop F S0=some (DU step fin 0 s0 l):=by
  have key: ∀(r:List α) (i:Nat) (s:σ),l.drop i=r→i≤l.length→inv i s→loop F (pk i s)=some (DU step fin i s r):=by
    intro r
    induction r with
    |nil=>
     intro i s hi hil hv
     have:=AJ hi
     obtain rfl:i=l.length:=by omega
     exact Gx (h0 s hv)
    |cons a r ih=>
     intro i s hi hil hv
     have hlt:=FB hi
     have ha:=II hi
     have hs:=hF i a s ha hv
     unfold DU
     cases h:step i s a with
     |inl s'=>rw [h]at hs;rw [Tl hs];exact ih (i+1) s' (Wz hi) (by omega) (hI i a s s' ha hv h)
     |inr t=>rw [h]at hs;exact Gx hs
  rw [← hS]
  exact key l 0 s0 rfl (by omega) hi
/-- The elements that a loop gathers. -/
def MX (g:Nat→α→Option β):Nat→List α→List β
  |_,[]=> []
  |i,a::r=>match g i a with
   |some b=>b::MX g (i+1) r
   |none=>MX g (i+1) r
/-- Is there one? -/
theorem cL {F:Int→Option (Stp Int (Sum Unit β))}(l:List α)(p:α→Bool)(v:β)(hF: ∀(i:Nat) a,l[i]? =some a→F (i:Int)=some (if p a then .out (.inr v)else .go ((i+1:Nat):Int)))(h0:F (l.length:Int)=some (.out (.inl ()))):
    loop F 0=some (if l.any p then .inr v else .inl ()):=by
  have key: ∀(l:List α) (i:Nat),DU (fun _ _ a=>if p a then Sum.inr (Sum.inr v)else Sum.inl ()) (fun _=>(Sum.inl ():Sum Unit β)) i () l=if l.any p then .inr v else .inl ():=by
    intro l
    induction l with
    |nil=>intro i;rfl
    |cons a r ih=>
     intro i
     unfold DU
     rw [List.any_cons]
     cases h:p a
     ·exact ih (i+1)
     ·rfl
  rw [← key l 0]
  exact cK (F:=F) (σ:=Unit) (fun i _=>(i:Int)) l (fun _ _=>True) _ _ (s0:=()) rfl trivial (fun i a _ h _=>by rw [hF i a h];cases p a<;>rfl) (fun _ _ _ _ _ _ _=>trivial) (fun _ _=>h0)
end
theorem Fp {i:Nat}{n:Nat}(h:i<n):decide ((i:Int)< (n:Int))=true:=l6 (by omega)
theorem Ce (n:Nat):decide ((n:Int)< (n:Int))=false:=l7 (by omega)
theorem X8 {i:Nat}{n:Nat}(h:i<n)(hn:n≤1000000000000):J6 ((i:Int)+1)=((i+1:Nat):Int):=by rw [Jn (by omega)];omega
end Go.Abs
namespace Go.Abs.World
open Go Go.Abs
structure BearZ (m:Map):Prop where
  many:m.Zones.length≤1000000
  parts: ∀z∈m.Zones,z.Parts.length≤1000000
noncomputable def Cs (m:Map)(k:Int):Int:=((m.Lanes[k.toNat]?).map fun l=>WO l.Curve_).getD 0
noncomputable def WP (m:Map)(p:Part):Bool:=decide (p.From<0)||decide (p.From≥p.To)||decide (p.To>Cs m p.Lane_)||decide (p.Rank<0)||decide (p.Rank>100)
noncomputable def IJ (m:Map)(_:Nat)(z:Zone):Option Int:=
  if z.Parts.length<2 then some 6
  else if 6<z.Parts.length then some 8
  else if z.Signal_<0∨(m.Signals.length:Int)<z.Signal_ then some 2
  else if Yb m.Lanes.length 0 (z.Parts.map (·.Lane_))=false then some 11
  else if z.Parts.any (WP m)=true then some 2 else none
theorem WQ {m:Map}{k:Int}(h0:0≤k)(h1:k<m.Lanes.length): ∃l,m.Lanes[k.toNat]? =some l∧F2 m.Lanes k=some l:=by
  have hlt:k.toNat<m.Lanes.length:=by omega
  refine ⟨m.Lanes[k.toNat],lG hlt,?_⟩
  unfold F2
  rw [bB h0,lG hlt]
structure BearW (m:Map):Prop where
  many:m.Works.length≤1000000
noncomputable def IK (m:Map)(_:Nat)(w:Work):Option Int:=
  if w.Lane_<0∨(m.Lanes.length:Int)≤w.Lane_ then some 7
  else if (decide (w.From<0)||decide (w.From>w.To)||decide (w.To>Cs m w.Lane_)||decide (w.Begin<0)||decide (w.Begin≥w.End)||decide (w.End>1099511627776)|| !LB w.Limit 0 ((m.Lanes[w.Lane_.toNat]?).map fun l=>(PA l.Kind).1).get!)=true then some 2 else none
/-- All lists of a map are of bearable lengths. -/
structure BearM (m:Map):Prop where
  toBear:Bear m
  toBearS:BearS m
  toBearZ:BearZ m
  toBearW:BearW m
theorem BearM.lanes {m:Map}(B:BearM m):m.Lanes.length≤1000000:=B.toBear.lanes
noncomputable def TC (m:Map):Int:=
  if LB m.Version 0 1099511627776=false then 2
  else if m.Lanes.length=0 then 6
  else if 12<m.Lanes.length∨12<m.Zones.length∨4<m.Signals.length∨8<m.Works.length then 8
  else ((X6 (laneE m.Lanes.length) 0 m.Lanes).or ((X6 (MW m) 0 m.Lanes).or ((X6 (signalE m) 0 m.Signals).or ((X6 (IJ m) 0 m.Zones).or (X6 (IK m) 0 m.Works))))).getD 0
theorem Ka {α:Type}{g:Nat→α→Option Int}(h: ∀i a e,g i a=some e→e≠0): ∀{l:List α} {i:Nat} {e:Int},X6 g i l=some e→e≠0
  | [],_,_,q=>by cases q
  |a::r,i,e,q=>by
   unfold X6 at q
   cases hg:g i a with
   |some e'=>rw [hg]at q;cases q;exact h i a e hg
   |none=>rw [hg]at q;exact Ka h q
theorem TD {m:Map}{i:Nat}{z:Zone}{e:Int}(h:IJ m i z=some e):e≠0:=by
  unfold IJ at h
  repeat' split at h
  all_goals first|(cases h;decide)|cases h
theorem LF {m:Map}{i:Nat}{z:Signal}{e:Int}(h:signalE m i z=some e):e≠0:=by
  unfold signalE at h
  repeat' split at h
  all_goals first|(cases h;decide)|cases h
theorem TE {m:Map}{i:Nat}{z:Work}{e:Int}(h:IK m i z=some e):e≠0:=by
  unfold IK at h
  repeat' split at h
  all_goals first|(cases h;decide)|cases h
theorem TF {m:Map}{i:Nat}{z:Lane}{e:Int}(h:MW m i z=some e):e≠0:=Ka (fun _ _ _=>PB) h
/-- What a valid map is. -/
structure ValR (m:Map):Prop where
  ver:0≤m.Version∧m.Version≤1099511627776
  pos:0<m.Lanes.length
  lanes:m.Lanes.length≤12
  zones:m.Zones.length≤12
  signals:m.Signals.length≤4
  works:m.Works.length≤8
  laneE:X6 (laneE m.Lanes.length) 0 m.Lanes=none
  MW:X6 (MW m) 0 m.Lanes=none
  signalE:X6 (signalE m) 0 m.Signals=none
  IJ:X6 (IJ m) 0 m.Zones=none
  IK:X6 (IK m) 0 m.Works=none
theorem PC {α:Type}{g:Nat→α→Option Int}{l:List α}(h: ∀i a e,g i a=some e→e≠0)(h0:(X6 g 0 l).getD 0=0):X6 g 0 l=none:=by
  cases q:X6 g 0 l with
  |none=>rfl
  |some e=>rw [q]at h0;exact absurd h0 (Ka h q)
theorem chkR_zero {m:Map}:TC m=0↔ValR m:=by
  unfold TC
  constructor
  ·intro h
   split at h
   ·cases h
   ·rename_i h1
    split at h
    ·cases h
    ·rename_i h2
     split at h
     ·cases h
     ·rename_i h3
      simp only [LB,Bool.not_eq_false,bD,l8]at h1
      have key: ∀{o r:Option Int},(∀e,o=some e→e≠0)→(o.or r).getD 0=0→o=none∧r.getD 0=0:=by
        intro o r ho hr
        cases o with
        |none=>exact ⟨rfl,hr⟩
        |some e=>exact absurd hr (ho e rfl)
      obtain ⟨a1,h⟩:=key (fun e h=>Ka (fun _ _ _=>TA) h) h
      obtain ⟨a2,h⟩:=key (fun e h=>Ka (fun _ _ _=>TF) h) h
      obtain ⟨a3,h⟩:=key (fun e h=>Ka (fun _ _ _=>LF) h) h
      obtain ⟨a4,h⟩:=key (fun e h=>Ka (fun _ _ _=>TD) h) h
      exact ⟨h1,by omega,by omega,by omega,by omega,by omega,a1,a2,a3,a4,PC (fun _ _ _=>TE) h⟩
  ·rintro ⟨h1,h2,h3,h4,h5,h6,a1,a2,a3,a4,a5⟩
   rw [bC (by simp only [LB,Bool.not_eq_false,bD,l8];exact h1),bC (by omega),bC (by omega),a1,a2,a3,a4,a5];rfl
section
variable {m:Map}
theorem ValR.laneOK (V:ValR m){i:Nat}{l:Lane}(h:m.Lanes[i]? =some l):LaneOK m.Lanes.length i l:=TB V.laneE h
theorem ValR.next (V:ValR m){i:Nat}{l:Lane}(h:m.Lanes[i]? =some l){k:Int}(hk:k∈l.Next):(i:Int)<k∧k<m.Lanes.length:=by
  have:=Xj (V.laneOK h).next k hk
  omega
end
/-- The lanes in which a lane goes on. -/
def nextOf (m:Map)(a:Nat):List Int:=((m.Lanes[a]?).map (·.Next)).getD []
theorem ValR.nextOf {m:Map}(V:ValR m){a:Nat}{k:Int}(hk:k∈World.nextOf m a):(a:Int)<k∧k<m.Lanes.length:=by
  unfold World.nextOf at hk
  cases h:m.Lanes[a]? with
  |none=>rw [h]at hk;cases hk
  |some l=>rw [h]at hk;exact V.next h hk
def TG (m:Map)(b:Int):Nat→Nat→Bool
  |0,_=>false
  |n+1,a=>(nextOf m a).any fun k=>k==b||TG m b n k.toNat
/-- Does a lane lead to another one? -/
def aG (m:Map)(a:Nat)(b:Int):Bool:=TG m b m.Lanes.length a
/-- What is known of the sets of the lanes from a number on. -/
structure Reach (m:Map)(i:Nat)(l:List Nat):Prop where
  len:l.length=12
  small: ∀(a x:Nat),l[a]? =some x→x<2^32
  zero: ∀(a:Nat),a<i→l[a]? =some 0
  bits: ∀(a x:Nat),i≤a→a<m.Lanes.length→l[a]? =some x→∀b:Nat,x.testBit b=aG m a (b:Int)
theorem Reach.get {m:Map}{i:Nat}{l:List Nat}(R:Reach m i l){a:Nat}(h:a<12): ∃x,l[a]? =some x∧x<2^32:=by
  have:=R.len
  exact ⟨l[a],lG (by omega),R.small a _ (lG (by omega))⟩
noncomputable def eC (m:Map)(k:Int):Bool:=(decide (k≥0)&&decide (k<m.Lanes.length))&& (TC m==0)
noncomputable def MY (m:Map)(k:Int):Int:=if eC m k then Cs m k else 0
/-- What comes before a lane. -/
def MZ (m:Map)(k:Int):List Int:=MX (fun i (l:Lane)=>if l.Next.contains k then some (i:Int)else none) 0 m.Lanes
def YC (z:Zone)(k:Int):Part×Bool:=match z.Parts.find? (fun p=>p.Lane_==k)with|some p=>(p,true)|none=>(⟨0,0,0,0⟩,false)
structure ZoneOK (m:Map)(z:Zone):Prop where
  two:2≤z.Parts.length
  six:z.Parts.length≤6
  sig:0≤z.Signal_∧z.Signal_≤m.Signals.length
  rise:Yb m.Lanes.length 0 (z.Parts.map (·.Lane_))=true
  part: ∀p∈z.Parts,0≤p.From∧p.From<p.To∧p.To≤Cs m p.Lane_∧0≤p.Rank∧p.Rank≤100
theorem ZoneOK.lane {m:Map}{z:Zone}(O:ZoneOK m z){p:Part}(hp:p∈z.Parts):0≤p.Lane_∧p.Lane_<m.Lanes.length:=Xj O.rise p.Lane_ (List.mem_map.2 ⟨p,hp,rfl⟩)
theorem TH:Dr=some true:=law04_awake_le _ (by decide+kernel)
end Go.Abs.World
namespace Go.Abs
end Go.Abs
namespace Go.Abs.World
open Go Go.Abs
/-! ### How long lanes are -/
theorem TI: ∀(l:List Int) (s:Int),(∀x∈l,0≤x∧x≤1048576)→0≤s→s+1048576*l.length≤9000000000000000000→s≤LA s l∧LA s l≤s+1048576*l.length
  | [],s,_,_,_=>by simp [LA]
  |a::r,s,h,h0,h1=>by
   have ha:=h a (by simp)
   simp only [lJ]at h1 ⊢
   rw [LA,Jn (by omega)]
   have:=TI r (s+a) (fun x hx=>h x (by simp [hx])) (by omega) (by omega)
   omega
theorem TJ: ∀{l:List Spot} {last:Option CurveVector},Good last l→∀x∈FN l,1000≤x∧x≤1048576:=by
  intro l last h
  induction h with
  |one last p=>intro x hx;simp [FN]at hx
  |cons last p q r h1 h2 h3 h4 h ih=>
   intro x hx
   rw [Xi,lS]at hx
   rcases hx with rfl|hx
   ·exact ⟨h2,h3⟩
   ·exact ih x hx
theorem WR {c:Curve}(h:Vb c.Pts=0):1000≤WO c∧WO c≤16777216:=by
  have V:=checkM_zero.1 h
  unfold WO MV
  rw [bB h]
  have h16:=V.most
  have h2:=V.two
  have hm:=TJ V.good
  cases hp:c.Pts with
  |nil=>rw [hp]at h2;simp at h2
  |cons p r=>
   rw [hp]at hm h16 h2
   cases r with
   |nil=>simp at h2
   |cons q r=>
    simp only [lJ]at h16
    rw [Xi]at hm ⊢
    have ha:=hm _ (List.mem_cons_self)
    have hl:=Ya r q
    rw [LA,Jn (by omega),Int.zero_add]
    have:=TI (FN (q::r)) (rt (Hz (Jz p q) (Jz p q))) (fun x hx=>by have:=hm x (List.mem_cons_of_mem _ hx);omega) (by omega) (by rw [hl];omega)
    rw [hl]at this
    omega
theorem ValR.long {m:Map}(V:ValR m){k:Int}(h0:0≤k)(h1:k<m.Lanes.length):1000≤Cs m k∧Cs m k≤16777216:=by
  obtain ⟨l,e1,e2⟩:=WQ h0 h1
  unfold Cs
  rw [e1]
  exact WR (V.laneOK e1).curve
/-! ### Routes -/
def Xk (m:Map):Int→List Int→Bool
  |_,[]=>true
  |a,b::r=>(nextOf m a.toNat).contains b&&Xk m b r
noncomputable def Tp (m:Map)(r:List Int):Int:=
  if TC m≠0 then TC m
  else match r with
    | []=>13
    |a::t=>if 7<t.length∨a<0∨(m.Lanes.length:Int)≤a∨MZ m a≠ []∨Xk m a t=false then 13 else 0
/-- What a route is. -/
structure RouteOK (m:Map)(a:Int)(t:List Int):Prop where
  val:ValR m
  most:t.length≤7
  first:0≤a∧a<m.Lanes.length
  source:MZ m a= []
  chain:Xk m a t=true
theorem chkRoute_zero {m:Map}{r:List Int}:Tp m r=0↔∃a t,r=a::t∧RouteOK m a t:=by
  unfold Tp
  constructor
  ·intro h
   split at h
   ·exact absurd h (by assumption)
   ·rename_i h1
    have V:=chkR_zero.1 (Decidable.not_not.1 h1)
    split at h
    ·cases h
    ·rename_i a t
     split at h
     ·cases h
     ·rename_i h2
      exact ⟨a,t,rfl,V,by omega,by omega,Decidable.not_not.1 fun q=>h2 (.inr (.inr (.inr (.inl q)))),by
        cases q:Xk m a t with
        |true=>rfl
        |false=>exact absurd (.inr (.inr (.inr (.inr q)))) h2⟩
  ·rintro ⟨a,t,rfl,V,h1,h2,h3,h4⟩
   rw [bC (by rw [chkR_zero.2 V];simp)]
   dsimp only
   rw [bC]
   rintro (q|q|q|q|q)
   ·omega
   ·omega
   ·omega
   ·exact q h3
   ·rw [h4]at q;cases q
theorem DV {m:Map}(V:ValR m): ∀{t:List Int} {a:Int},Xk m a t=true→0≤a→∀x∈t,a<x∧x<m.Lanes.length
  | [],_,_,_,x,hx=>by cases hx
  |b::r,a,h,h0,x,hx=>by
   rw [Xk,bD,List.contains_iff_mem]at h
   have hb:=V.nextOf h.1
   rcases lS.1 hx with rfl|hx
   ·omega
   ·have:=DV V h.2 (by omega) x hx;omega
theorem RouteOK.mem {m:Map}{a:Int}{t:List Int}(R:RouteOK m a t){x:Int}(hx:x∈a::t):0≤x∧x<m.Lanes.length:=by
  have:=R.first
  rcases lS.1 hx with rfl|hx
  ·exact this
  ·have:=DV R.val R.chain (by omega) x hx;omega
/-- Where the lanes of a route begin. -/
noncomputable def On (m:Map):Int→List Int→List Int
  |_,[]=> []
  |s,a::r=>s::On m (s+Cs m a) r
noncomputable def Gs (m:Map):Int→List Int→Int
  |s,[]=>s
  |s,a::r=>Gs m (s+Cs m a) r
noncomputable def Yv (m:Map)(r:List Int):RoadsWay:=if Tp m r=0 then ⟨m,r,On m 0 r,Gs m 0 r⟩else ⟨⟨0,[],[],[],[]⟩,[],[],0⟩
/-- The place in a route at which it enters a zone. -/
noncomputable def LG (m:Map)(r:List Int)(k:Int):Int:=match m.Zones[k.toNat]? with
  |some z=>if 0≤k∧Tp m r=0 then dM (fun l=>(YC z l).2) r else -1
  |none=> -1
end Go.Abs.World
/-! Lists that are sorted, and how an insertion sort makes them. -/
namespace Go.Abs
open Go
/-- What a comparison must satisfy. -/
structure LtOK {α:Type}(lt:α→α→Bool):Prop where
  asym: ∀a b,lt a b=true→lt b a=false
  trans: ∀a b c,lt b a=false→lt c b=false→lt c a=false
def Srt {α:Type}(lt:α→α→Bool)(l:List α):Prop:=l.Pairwise fun a b=>lt b a=false
section
variable {α:Type}
variable {lt:α→α→Bool}
theorem Srt.ins (L:LtOK lt){Q1 Q2:List α}{x:α}(h:Srt lt (Q1++Q2))(h1: ∀q∈Q1,lt x q=false)(h2: ∀q∈Q2,lt x q=true):Srt lt (Q1++x::Q2):=by
  unfold Srt at h ⊢
  rw [List.pairwise_append]at h ⊢
  refine ⟨h.1,List.pairwise_cons.2 ⟨fun b hb=>L.asym _ _ (h2 b hb),h.2.1⟩,fun a ha b hb=> ?_⟩
  rcases lS.1 hb with rfl|hb
  ·exact h1 a ha
  ·exact h.2.2 a ha b hb
theorem LtOK.irr (L:LtOK lt)(a:α):lt a a=false:=by
  cases h:lt a a with
  |false=>rfl
  |true=>rw [L.asym a a h]at h;cases h
theorem Srt.get (L:LtOK lt){l:List α}(h:Srt lt l){i j:Nat}(hij:i≤j)(hj:j<l.length):lt l[j] l[i]=false:=by
  rcases Nat.lt_or_eq_of_le hij with h1|h1
  ·exact List.pairwise_iff_getElem.1 h i j (by omega) hj h1
  ·subst h1;exact L.irr _
theorem Srt.left {l m:List α}(h:Srt lt (l++m)):Srt lt l:=(List.pairwise_append.1 h).1
end
end Go.Abs
/-! How the lists are sorted. -/
namespace Go.Abs.World
open Go Go.Abs
structure SigOK (s:Signal):Prop where
  pos:0<s.Phases.length
  many:s.Phases.length≤6
  off:0≤s.Offset∧s.Offset≤1099511627776
  ticks: ∀p∈s.Phases,1≤p.Ticks∧p.Ticks≤10000
  green: ∀p∈s.Phases,p.Green.length≤1000000
theorem ValR.sig {m:Map}(B:BearM m)(V:ValR m){i:Nat}{s:Signal}(h:m.Signals[i]? =some s):SigOK s:=by
  have:=firstE_none.1 V.signalE i s h
  unfold World.signalE at this
  split at this
  ·cases this
  split at this
  ·cases this
  split at this
  ·cases this
  split at this
  ·cases this
  rename_i h1 h2 h3 h4
  refine ⟨by omega,by omega,?_,fun p hp=> ?_,(B.toBearS.phases s (lF h)).2⟩
  ·have:LB s.Offset 0 1099511627776=true:=by simpa using h3
   simpa [LB] using this
  ·have:LB p.Ticks 1 10000=true:=by
     cases q:LB p.Ticks 1 10000 with
     |true=>rfl
     |false=>exact absurd (List.any_eq_true.2 ⟨p,hp,by rw [q];rfl⟩) h4
   simpa [LB] using this
def IL:List Phase→Int
  | []=>0
  |p::r=>p.Ticks+IL r
def YD (lane:Int):Int→List Phase→Bool
  |_,[]=>false
  |at_,p::r=>if p.Ticks≤at_ then YD lane (at_ - p.Ticks) r else p.Green.contains lane
def aH (s:Signal)(lane tick:Int):Bool:=YD lane ((s.Offset+tick) % IL s.Phases) s.Phases
theorem NA: ∀{l:List Phase},(∀p∈l,1≤p.Ticks∧p.Ticks≤10000)→(l.length:Int)≤IL l∧IL l≤10000*l.length
  | [],_=>by simp [IL]
  |p::r,h=>by
   have:=NA (l:=r) fun q hq=>h q (List.mem_cons_of_mem _ hq)
   have:=h p (by simp)
   simp only [IL,lJ]
   omega
theorem SigOK.sum {s:Signal}(S:SigOK s):1≤IL s.Phases∧IL s.Phases≤60000:=by
  have:=NA S.ticks
  have:=S.pos
  have:=S.many
  omega
noncomputable def aI (m:Map)(g lane tick:Int):Bool:=(((decide (tick≥0))&& (decide (g≥0)))&& (decide (g< (m.Signals.length:Int))))&&eC m lane&&aH (m.Signals.getD g.toNat default) lane tick
end Go.Abs.World
namespace Go.Abs
open Go
section
variable {α β σ τ:Type}
end
end Go.Abs
namespace Go.Abs.World
open Go Go.Abs
def dN (a b:Pass):Bool:=decide (a.From<b.From∨a.From=b.From∧a.Zone_<b.Zone_)
def BlkS (w:Nat)(l:List Pass):Prop:= ∀i,Srt dN ((l.drop (i*w)).take w)
theorem BlkS.cons {w:Nat}{M R:List Pass}(hM:M.length=w)(h1:Srt dN M)(h2:BlkS w R):BlkS w (M++R):=by
  intro i
  cases i with
  |zero=>rw [Nat.zero_mul,List.drop_zero,List.take_append_of_le_length (by omega),List.take_of_length_le (by omega)];exact h1
  |succ i=>
   have:=h2 i
   rw [bM,Nat.one_mul,List.drop_append,List.drop_eq_nil_of_le (by omega),lO,show i*w+w - M.length=i*w by omega]
   exact this
theorem BlkS.last {w:Nat}{M:List Pass}(hM:M.length≤w)(h1:Srt dN M):BlkS w M:=by
  intro i
  exact h1.sublist ((List.take_sublist _ _).trans (List.drop_sublist _ _))
theorem BlkS.drop {w:Nat}{R:List Pass}(h:BlkS w R):BlkS w (R.drop w):=by
  intro i
  have:=h (i+1)
  rwa [bM,Nat.one_mul,Nat.add_comm,← List.drop_drop]at this
theorem Vc (m:Map): ∀(r:List Int) (s:Int),Gs m s r=s+Gs m 0 r
  | [],s=>by simp [Gs]
  |a::r,s=>by rw [Gs,Gs,Vc m r (s+Cs m a),Vc m r (0+Cs m a)];omega
theorem Yc (m:Map): ∀(r:List Int) (s:Int) (i:Nat),i<r.length→(On m s r)[i]? =some (s+Gs m 0 (r.take i))
  | [],_,_,h=>absurd h (by simp)
  |a::r,s,0,_=>by simp [On,Gs]
  |a::r,s,i+1,h=>by
   rw [On,List.getElem?_cons_succ,Yc m r _ i (by simpa using h),List.take_succ_cons,Gs,Vc m _ (0+Cs m a)]
   congr 1;omega
noncomputable def IM (m:Map)(r:List Int)(i:Nat):Int:=Gs m 0 (r.take i)
theorem IN (m:Map)(r:List Int):IM m r 0=0:=rfl
theorem Yd (m:Map)(x:Int): ∀(l:List Int) (s:Int),Gs m s (l++ [x])=Gs m s l+Cs m x
  | [],s=>rfl
  |a::l,s=>by rw [List.cons_append,Gs,Gs,Yd m x l]
theorem TK {m:Map}{r:List Int}{i:Nat}{a:Int}(h:r[i]? =some a):IM m r (i+1)=IM m r i+Cs m a:=by
  unfold IM
  rw [List.take_add_one,h]
  exact Yd m a _ _
theorem WS (m:Map)(r:List Int):IM m r r.length=Gs m 0 r:=by rw [IM,List.take_length]
theorem RouteOK.len {m:Map}{a:Int}{t:List Int}(R:RouteOK m a t){i:Nat}{x:Int}(h:(a::t)[i]? =some x):1000≤Cs m x∧Cs m x≤16777216:=by
  have:=R.mem (lF h)
  exact R.val.long this.1 this.2
theorem RouteOK.mono {m:Map}{a:Int}{t:List Int}(R:RouteOK m a t): ∀(j i:Nat),i+j≤(a::t).length→IM m (a::t) i+1000*j≤IM m (a::t) (i+j)∧IM m (a::t) (i+j)≤IM m (a::t) i+16777216*j
  |0,i,_=>by simp
  |j+1,i,h=>by
   have:=R.mono j i (by omega)
   have e:(a::t)[i+j]? =some (a::t)[i+j]:=lG (by omega)
   have hl:=R.len e
   rw [← Nat.add_assoc,TK e]
   omega
theorem RouteOK.lt {m:Map}{a:Int}{t:List Int}(R:RouteOK m a t){i j:Nat}(hij:i<j)(hj:j≤(a::t).length):IM m (a::t) i+1000≤IM m (a::t) j:=by
  have:=(R.mono (j - i) i (by omega)).1
  rw [show i+ (j - i)=j by omega]at this
  omega
theorem RouteOK.bd {m:Map}{a:Int}{t:List Int}(R:RouteOK m a t){i:Nat}(hi:i≤(a::t).length):0≤IM m (a::t) i∧IM m (a::t) i≤134217728:=by
  have:=R.mono i 0 (by omega)
  have h7:=R.most
  simp only [lJ]at hi
  rw [bN,IN]at this
  omega
theorem RouteOK.follow {m:Map}{a:Int}{t:List Int}(R:RouteOK m a t):Yv m (a::t)=⟨m,a::t,On m 0 (a::t),IM m (a::t) (a::t).length⟩:=by
  unfold Yv
  rw [bB (chkRoute_zero.2 ⟨a,t,rfl,R⟩),WS]
theorem RouteOK.starts {m:Map}{a:Int}{t:List Int}{i:Nat}(hi:i< (a::t).length):F2 (On m 0 (a::t)) (i:Int)=some (IM m (a::t) i):=by
  rw [Q6 (Yc m _ 0 i hi),Int.zero_add];rfl
section
variable {m:Map}{a:Int}{t:List Int}
/-- A map with so few zones as the kit's. -/
structure BearK (m:Map):Prop extends BearM m where
  zones2:m.Zones.length≤2
end
noncomputable def StartsM (m:Map)(r:List Int):List Int:=(Yv m r).starts
noncomputable def LongM (m:Map)(r:List Int):Int:=(Yv m r).length
section
variable {m:Map}{a:Int}{t:List Int}
end
structure SmallS (s:State):Prop where
  agents:s.Agents.length≤10
  ins:s.In.length≤20
  routes: ∀a∈s.Agents,a.Route.length≤10
theorem IO (s:State): ∃b,Ig s=some b∧(b=true→SmallS s):=by
  unfold Ig
  by_cases h:10<s.Agents.length∨20<s.In.length
  ·rw [show (decide ((s.Agents.length:Int)>10)||decide ((s.In.length:Int)>20))=true by simp only [bE,l8];omega]
   exact ⟨false,rfl,nofun⟩
  ·rw [show (decide ((s.Agents.length:Int)>10)||decide ((s.In.length:Int)>20))=false by simp only [Bool.or_eq_false_iff,bG];omega,bA]
   have hk:=OZ s.Agents (Cv s) (fun _ a=>if 10<a.Route.length then some false else none) (fun i a ha=>by
     have hi:=V0 ha
     unfold Cv
     rw [Fp hi,Q6 ha,l9,lA]
     by_cases q:10<a.Route.length
     ·rw [bB q,l6 (show (a.Route.length:Int)>10 by omega)];rfl
     ·rw [bC q,l7 (show ¬(a.Route.length:Int)>10 by omega),bA,X8 hi (by omega)]) (by unfold Cv;rw [Ce];rfl)
   rw [hk]
   cases hf:X6 (fun _ (a:Agent)=>if 10<a.Route.length then some false else none) 0 s.Agents with
   |some b=>
    refine ⟨b,rfl,fun hb=> ?_⟩
    subst hb
    exfalso
    have: ∀(l:List Agent) (i:Nat),X6 (fun _ (a:Agent)=>if 10<a.Route.length then some false else none) i l≠some true:=by
      intro l
      induction l with
      |nil=>intro i h;cases h
      |cons a l ih=>
       intro i h
       unfold X6 at h
       by_cases q:10<a.Route.length
       ·rw [bB q]at h;cases h
       ·rw [bC q]at h;exact ih _ h
    exact this _ _ hf
   |none=>
    refine ⟨true,rfl,fun _=>⟨by omega,by omega,fun a ha=> ?_⟩⟩
    obtain ⟨j,hj⟩:=List.getElem?_of_mem ha
    have:=firstE_none.1 hf j a hj
    by_cases q:10<a.Route.length
    ·rw [bB q]at this;cases this
    ·omega
/-! ### Copies -/
theorem Wj {α:Type}{l:List α}(h:l.length≤1000000):Y4 ([]:List α) l=some l:=by
  rw [Tk (by simp;omega),lO]
structure SizeS (s:State):Prop where
  agents:s.Agents.length≤1000
  ins:s.In.length≤1000000
  routes: ∀a∈s.Agents,a.Route.length≤1000
theorem SmallS.size {s:State}(h:SmallS s):SizeS s:=⟨by have:=h.agents;omega,by have:=h.ins;omega,fun a ha=>by have:=h.routes a ha;omega⟩
theorem DW (F:Int×State→Option (Stp (Int×State) State))(s:State)(h:SizeS s)(l0:List Stay)
    (hF: ∀(i:Nat) (a:Agent) (t:State),s.Agents[i]? =some a→F ((i:Int),t)=(Y4 t.Agents [a]).bind fun v=>some (.go (J6 ((i:Int)+1),⟨t.Tick,v,t.In⟩))) (h0: ∀t:State,F ((s.Agents.length:Int),t)=some (.out t)):
    loop F (0,⟨s.Tick,[],l0⟩)=some ⟨s.Tick,s.Agents,l0⟩:=by
  have key: ∀(r:List Agent) (i:Nat),s.Agents.drop i=r→i≤s.Agents.length→loop F ((i:Int),⟨s.Tick,s.Agents.take i,l0⟩)=some ⟨s.Tick,s.Agents,l0⟩:=by
    intro r
    induction r with
    |nil=>
     intro i hi hil
     have:=AJ hi
     obtain rfl:i=s.Agents.length:=by omega
     rw [Gx (h0 _),List.take_length]
    |cons a r ih=>
     intro i hi hil
     have hlt:=FB hi
     have ha:=II hi
     have hh:=h.agents
     rw [Tl (s':=(((i+1:Nat):Int),⟨s.Tick,s.Agents.take (i+1),l0⟩)),ih (i+1) (Wz hi) hlt]
     rw [hF i a _ ha,Tk (by rw [lT];simp;omega),lA,X8 hlt (by omega),List.take_add_one,ha];rfl
  exact key s.Agents 0 rfl (by omega)
theorem TL {s:State}(h:SizeS s):Nz s=some s:=by
  unfold Nz
  rw [Wj h.ins,lA,DW (Es s) s h s.In (fun i a t ha=> ?_) (fun t=>by unfold Es;dsimp only;rw [Ce];rfl)]
  ·rfl
  ·unfold Es
   dsimp only
   rw [Fp (V0 ha),Q6 ha,l9,lA,Wj (by have:=h.routes a (lF ha);omega),lA]
theorem PD {l:List Int}(h:l.length≤1000000):Fe l=some l:=Wj h
theorem IP {a:Agent}(h:a.Route.length≤1000):Aq a=some a:=by
  unfold Aq
  rw [PD (by omega),lA]
theorem WT {s:State}(h:SizeS s):Ci s=some s:=by
  unfold Ci
  rw [show W8 s.In=some s.In from Wj h.ins,lA,DW (Eg s) s h s.In (fun i a t ha=> ?_) (fun t=>by unfold Eg;dsimp only;rw [Ce];rfl)]
  ·rfl
  ·unfold Eg
   dsimp only
   rw [Fp (V0 ha),Q6 ha,l9,lA,IP (h.routes a (lF ha)),lA]
/-! ### Equal states -/
/-- The last place up to a number. -/
def TM (S:Int):Nat→Nat→List Int→Nat
  |_,b,[]=>b
  |i,b,x::r=>TM S (i+1) (if x≤S then i else b) r
noncomputable def eD (m:Map)(g:Agent):Nat:=TM g.S 0 0 (StartsM m g.Route)
/-- The lane of an agent, and its offset. -/
noncomputable def cM (m:Map)(g:Agent):Int×Int:=(g.Route.getD (eD m g) 0,g.S - (StartsM m g.Route).getD (eD m g) 0)
theorem RouteOK.StartsM {m:Map}{a:Int}{t:List Int}(R:RouteOK m a t):StartsM m (a::t)=On m 0 (a::t):=by unfold World.StartsM;rw [R.follow]
theorem RouteOK.LongM {m:Map}{a:Int}{t:List Int}(R:RouteOK m a t):LongM m (a::t)=IM m (a::t) (a::t).length:=by unfold World.LongM;rw [R.follow]
noncomputable def aJ (m:Map)(x:Int):Int:=((m.Lanes[x.toNat]?).map (·.Kind)).getD 0
/-- The greatest speed, acceleration and braking where an agent is. -/
noncomputable def cN (m:Map)(g:Agent):Int×Int×Int:=PA (aJ m (cM m g).1)
noncomputable def cO (m:Map)(g:Agent):Bool:=decide (J6 (g.S - g.Len)>LongM m g.Route)
theorem TN {m:Map}{a:Int}{t:List Int}(R:RouteOK m a t):1000≤LongM m (a::t)∧LongM m (a::t)≤134217728:=by
  have h1:=R.bd (bK _)
  have h2:=R.lt (i:=0) (j:=(a::t).length) (by simp) (bK _)
  rw [IN]at h2
  rw [R.LongM];omega
def cP (a b:Stay):Bool:=decide (a.Agent_<b.Agent_)||(a.Agent_==b.Agent_&&decide (a.Zone_<b.Zone_))
def cQ (m:Map)(s:State)(x:Stay):Bool:=((decide (x.Agent_<0)||decide (x.Agent_≥(s.Agents.length:Int)))||decide (x.Zone_<0))||decide (x.Zone_≥(m.Zones.length:Int))
def dO (s:State)(x:Stay):Bool:=((decide (x.Since<0)||decide (x.Since>s.Tick))||decide (x.Rank<0))||decide (x.Rank>100)
/-- A map of the kit. -/
structure KitM (m:Map):Prop extends BearK m where
  val:ValR m
/-- Who is there. -/
def LH (s:State)(i:Int):Bool:=match F2 s.Agents i with
  |some g=> !g.Gone&&decide (g.Begin≤s.Tick)
  |none=>false
/-- What is known of an agent of a valid state. -/
structure AgentOK (m:Map)(s:State)(i:Int)(g:Agent):Prop where
  route: ∃a t,g.Route=a::t∧RouteOK m a t
  len:300≤g.Len∧g.Len≤20000
  begin:0≤g.Begin∧g.Begin≤1099511627776
  S:0≤g.S∧g.S≤LongM m g.Route+g.Len+2000
  V:0≤g.V∧g.V≤(cN m g).1
  gone:g.Gone=cO m g
  late: ¬(g.Begin>s.Tick∧g.S≠0)
  first:i=0→g.Begin=0
structure StateOK (m:Map)(s:State):Prop where
  tick:0≤s.Tick∧s.Tick≤1099511627776
  num:0<s.Agents.length∧s.Agents.length≤8
  agent: ∀(i:Nat) g,s.Agents[i]? =some g→AgentOK m s (i:Int) g
  ins: ∀(i:Nat) x,s.In[i]? =some x→cQ m s x=false
  sorted: ∀(i:Nat) x y,s.In[i]? =some x→s.In[i+1]? =some y→cP x y=true
  rank: ∀x∈s.In,dO s x=false
theorem AgentOK.bd {m:Map}{s:State}{i:Int}{g:Agent}(A:AgentOK m s i g):1000≤LongM m g.Route∧LongM m g.Route≤134217728:=by
  obtain ⟨a,t,h,R⟩:=A.route
  rw [h];exact TN R
def YE (g:Agent):Bool:=(((decide (g.S≥0))&& (decide (g.S≤1099511627776)))&& (decide (g.Len≥0)))&& (decide (g.Len≤1099511627776))
noncomputable def WU (m:Map)(r:List Int):List Pass:=(Dw m r).getD []
def aK (g g':Agent)(z:Int)(p:Pass):Bool:=((p.Zone_==z)&&decide (p.From≤g'.S))&&decide (J6 (g.S - g.Len)≤p.To)
/-- Whether an agent is present in a zone during a tick. -/
noncomputable def TO (m:Map)(g g':Agent)(z:Int):Bool:=(YE g&&YE g')&& (WU m g.Route).any (aK g g' z)
/-- The lane on which a route enters a zone; -1 if it does not. -/
noncomputable def WV (m:Map)(r:List Int)(z:Int):Int:=if 0≤LG m r z then r.getD (LG m r z).toNat 0 else -1
/-- The rank of an agent in a zone. -/
noncomputable def cS (m:Map)(r:List Int)(z tick:Int):Int:=
  if 0≤LG m r z then
   match m.Zones[z.toNat]? with
   |some zn=>if zn.Signal_>0 then (if aI m (zn.Signal_ - 1) (WV m r z) tick=true then 2 else 0)else (YC zn (WV m r z)).1.Rank
   |none=>0
  else 0
def dP (i z:Int)(x:Stay):Bool:=x.Agent_==i&&x.Zone_==z
/-- Present at both ends of a tick. -/
noncomputable def YF (m:Map)(s:State)(A:List Agent)(i z:Int):Bool:=LH s i&& (match F2 s.Agents i,F2 A i with
  |some g,some g'=>TO m g g' z
  |_,_=>false)
/-- The stay of who is present. -/
noncomputable def UH (m:Map)(s:State)(i z:Int):Stay:=match s.In.find? (dP i z)with
  |some x=>x
  |none=>⟨i,z,s.Tick,match F2 s.Agents i with|some g=>cS m g.Route z s.Tick|none=>0⟩
noncomputable def Sx (m:Map)(r:List Int)(x:Int):Int×Bool:=match r.findIdx? (fun y=>x==y)with
  |some i=>((StartsM m r).getD i 0,true)
  |none=>(0,false)
/-- Whether the back's front reaches the front's rear on a lane. -/
def eE (L:Int)(f' b' b:Agent)(fs bs:Int):Bool:=((((decide (J6 (f'.S - fs)≥0))&& (decide (J6 (b'.S - bs)≥0)))&& (decide (J6 (J6 (b.S - b.Len) - bs)≤L)))&& (decide (J6 (J6 (f'.S - f'.Len) - fs)≤L)))&& (decide (J6 (b'.S - bs)≥J6 (J6 (f'.S - f'.Len) - fs)))
noncomputable def aL (m:Map)(tick i j:Int)(gi gj gi' gj':Agent)(x:Int):Option Crash:=
  if (Sx m gi.Route x).2=true∧(Sx m gj.Route x).2=true then
   if J6 (gi.S - (Sx m gi.Route x).1)<J6 (gj.S - (Sx m gj.Route x).1)then
    (if eE (MY m x) gj' gi' gi (Sx m gj.Route x).1 (Sx m gi.Route x).1=true then some ⟨tick,i,j,x, -1,[i]⟩else none)
   else (if eE (MY m x) gi' gj' gj (Sx m gi.Route x).1 (Sx m gj.Route x).1=true then some ⟨tick,i,j,x, -1,[j]⟩else none)
  else none
/-- Two agents in a tick: what is known of them. -/
structure Two (m:Map)(s:State)(A:List Agent)(i j:Int)(gi gj gi' gj':Agent):Prop where
  hi:F2 s.Agents i=some gi
  hj:F2 s.Agents j=some gj
  hi':F2 A i=some gi'
  hj':F2 A j=some gj'
  ti:LH s i=true
  tj:LH s j=true
  ri:gi.Route.length≤1000
  rj:gj.Route.length≤1000
  oi: ∃a t,gi.Route=a::t∧RouteOK m a t
  oj: ∃a t,gj.Route=a::t∧RouteOK m a t
noncomputable def YG (m:Map)(tick i j:Int)(gi gj gi' gj':Agent):List Crash:=(X6 (fun k (_:Lane)=>aL m tick i j gi gj gi' gj' (k:Int)) 0 m.Lanes).toList
noncomputable def aM (m:Map)(s:State)(A:List Agent)(i j:Int)(gi gj:Agent)(z:Int):Bool:=(YF m s A i z&&YF m s A j z)&& (WV m gi.Route z !=WV m gj.Route z)
/-- Who is to blame. -/
noncomputable def dQ (m:Map)(s:State)(i j z:Int):List Int:=
  if (UH m s i z).Rank< (UH m s j z).Rank∨(UH m s i z).Rank=(UH m s j z).Rank∧(UH m s i z).Since>(UH m s j z).Since then [i]
  else if (UH m s j z).Rank< (UH m s i z).Rank∨(UH m s j z).Since>(UH m s i z).Since then [j]else [i,j]
noncomputable def aN (m:Map)(s:State)(A:List Agent)(i j:Int)(gi gj:Agent)(z:Nat)(_:Zone):Option Crash:=if aM m s A i j gi gj z=true then some ⟨s.Tick,i,j, -1,(z:Int),dQ m s i j z⟩else none
noncomputable def YH (m:Map)(s:State)(A:List Agent)(i j:Int)(gi gj:Agent):List Crash:=MX (aN m s A i j gi gj) 0 m.Zones
/-- The crashes of two agents. -/
noncomputable def YI (m:Map)(s:State)(A:List Agent)(i j:Int):List Crash:=match F2 s.Agents i,F2 s.Agents j,F2 A i,F2 A j with
  |some gi,some gj,some gi',some gj'=>YG m s.Tick i j gi gj gi' gj'++YH m s A i j gi gj
  |_,_,_,_=> []
theorem Two.pair {m:Map}{s:State}{A:List Agent}{i j:Int}{gi gj gi' gj':Agent}(T:Two m s A i j gi gj gi' gj'):YI m s A i j=YG m s.Tick i j gi gj gi' gj'++YH m s A i j gi gj:=by
  unfold YI
  rw [T.hi,T.hj,T.hi',T.hj']
theorem DX {m:Map}{a:Int}{t:List Int}(R:RouteOK m a t):(a::t).length≤8:=by
  have:=R.most
  rw [lJ];omega
/-- What the kit makes of an actor. -/
structure KAgent (m:Map)(first:Bool)(g:Agent):Prop where
  route: ∃a t,g.Route=a::t∧RouteOK m a t
  len:300≤g.Len∧g.Len≤5000
  begin:0≤g.Begin∧g.Begin≤40
  S:0≤g.S∧g.S≤LongM m g.Route
  V:0≤g.V∧g.V≤(cN m g).1
  gone:g.Gone=false
  late:g.Begin>0→g.S=0
  first:first=true→g.Begin=0∧g.Obey=false
structure KList (m:Map)(A:List Agent):Prop where
  few:A.length≤8
  ok: ∀(i:Nat) g,A[i]? =some g→KAgent m (decide (i=0)) g
theorem KList.size {m:Map}{A:List Agent}(h:KList m A):SizeS ⟨0,A,[]⟩:=by
  refine ⟨by have:=h.few;dsimp only;omega,by simp,fun g hg=> ?_⟩
  obtain ⟨i,hi⟩:=List.getElem?_of_mem hg
  obtain ⟨a,t,hR,R⟩:=(h.ok i g hi).route
  have:=DX R
  rw [hR];omega
theorem StateOK.size {m:Map}(K:KitM m){s:State}(O:StateOK m s)(h:s.In.length≤1000000):SizeS s:=by
  refine ⟨by have:=O.num;omega,h,fun g hg=> ?_⟩
  obtain ⟨i,hi⟩:=List.getElem?_of_mem hg
  obtain ⟨a,t,hR,R⟩:=(O.agent i g hi).route
  have:=DX R
  rw [hR];omega
end Go.Abs.World
/-! Numbers as eight bytes, and back; strings as rows of bytes. -/
namespace Go.Abs
open Go
def Pi (L:List Int):Prop:= ∀b∈L,0≤b∧b<256
theorem Tq:Pi []:=fun _ h=>by cases h
theorem BH {b:Int}{L:List Int}:Pi (b::L)↔ (0≤b∧b<256)∧Pi L:=List.forall_mem_cons
theorem isB_append {L M:List Int}:Pi (L++M)↔Pi L∧Pi M:=List.forall_mem_append
theorem BI {L:List Int}(h:Pi L)(n:Nat):Pi (L.drop n):=fun b hb=>h b (List.mem_of_mem_drop hb)
theorem Sy {L:List Int}(h:Pi L)(n:Nat):Pi (L.take n):=fun b hb=>h b (List.mem_of_mem_take hb)
/-- A byte of a number. -/
def S6 (n:Int)(k:Nat):Int:=n % 18446744073709551616 / 2^k % 256
def Ye (n:Int):List Int:= [S6 n 56,S6 n 48,S6 n 40,S6 n 32,S6 n 24,S6 n 16,S6 n 8,S6 n 0]
theorem Yw (n:Int):(Ye n).length=8:=rfl
theorem TP (n:Int)(k:Nat):0≤S6 n k∧S6 n k<256:=by
  unfold S6
  omega
theorem NB (n:Int):Pi (Ye n):=by
  intro b hb
  simp only [Ye,lS,List.not_mem_nil,or_false]at hb
  rcases hb with h|h|h|h|h|h|h|h<;>rw [h]<;>exact TP _ _
def WW (L:List Int):Int:=L.foldl (fun a b=>a*256+b) 0
def YJ (L:List Int):Int:=J6 (WW L)
theorem TQ {L:List Int}(h:L.length=8): ∃a b c d e f g i,L= [a,b,c,d,e,f,g,i]:=by
  rcases L with _|⟨a,_|⟨b,_|⟨c,_|⟨d,_|⟨e,_|⟨f,_|⟨g,_|⟨i,_|⟨j,r⟩⟩⟩⟩⟩⟩⟩⟩⟩<;>simp at h
  exact ⟨a,b,c,d,e,f,g,i,rfl⟩
theorem aO {L:List Int}(h:L.length=8)(hb:Pi L):0≤WW L∧WW L<18446744073709551616:=by
  obtain ⟨a,b,c,d,e,f,g,i,rfl⟩:=TQ h
  simp only [BH]at hb
  obtain ⟨h1,h2,h3,h4,h5,h6,h7,h8,_⟩:=hb
  simp only [WW,List.foldl_cons,List.foldl_nil]
  omega
theorem IQ (n:Int):J6 n % 18446744073709551616=n % 18446744073709551616:=by
  have h:J6 n=IntKind.wrap .i64 n:=rfl
  rw [h]
  unfold IntKind.wrap
  simp only [IntKind.bits,IntKind.signed,Bool.true_and,l8,show (2:Int)^64=18446744073709551616 from rfl]
  split<;>omega
theorem WX {L:List Int}(h:L.length=8)(hb:Pi L):Ye (WW L)=L:=by
  obtain ⟨a,b,c,d,e,f,g,i,rfl⟩:=TQ h
  have hbd:=aO h hb
  simp only [BH]at hb
  obtain ⟨h1,h2,h3,h4,h5,h6,h7,h8,_⟩:=hb
  unfold Ye S6
  rw [Int.emod_eq_of_lt hbd.1 hbd.2]
  simp only [WW,List.foldl_cons,List.foldl_nil]
  simp only [List.cons.injEq,and_true]
  refine ⟨?_,?_,?_,?_,?_,?_,?_,?_⟩<;>omega
theorem WY (n:Int):Ye (J6 n)=Ye n:=by unfold Ye S6;simp only [IQ]
theorem WZ {L:List Int}(h:L.length=8)(hb:Pi L):Ye (YJ L)=L:=by rw [YJ,WY,WX h hb]
theorem XA (n:Int):WW (Ye n)=n % 18446744073709551616:=by
  simp only [Ye,S6,WW,List.foldl_cons,List.foldl_nil]
  have h0:0≤n % 18446744073709551616∧n % 18446744073709551616<18446744073709551616:=by omega
  generalize n % 18446744073709551616=u at h0
  omega
theorem XB {n:Int}(h:R0 n):YJ (Ye n)=n:=by
  rw [YJ,XA]
  have e:J6 (n % 18446744073709551616) % 18446744073709551616=n % 18446744073709551616:=by rw [IQ];omega
  have:=DG (n % 18446744073709551616)
  unfold R0 at h
  omega
theorem DY (L:List Int):R0 (YJ L):=DG _
/-! ### Strings -/
theorem X5 (L:List Int):(K9 L).size=L.length:=by unfold K9 ByteArray.size;simp
theorem Fq (L:List Int):(K9 L).data.toList=L.map fun n=>UInt8.ofNat n.toNat:=by simp [K9]
theorem LI (s:ByteArray):Pi (Bc s):=by
  intro b hb
  unfold Bc at hb
  obtain ⟨x,_,rfl⟩:=List.mem_map.1 hb
  have:=x.toNat_lt
  omega
theorem Ph {L:List Int}(h:Pi L):Bc (K9 L)=L:=by
  unfold Bc
  rw [Fq,List.map_map]
  conv=>rhs;rw [← List.map_id L]
  refine List.map_congr_left fun b hb=> ?_
  have:=h b hb
  simp only [Function.comp,UInt8.toNat_ofNat',id]
  omega
theorem Ts {a b:ByteArray}(h:a.data.toList=b.data.toList):a=b:=by
  cases a;cases b
  congr
  exact Array.toList_inj.1 h
theorem CN (s:ByteArray):K9 (Bc s)=s:=by
  refine Ts ?_
  rw [Fq]
  unfold Bc
  rw [List.map_map]
  conv=>rhs;rw [← List.map_id s.data.toList]
  refine List.map_congr_left fun b _=> ?_
  simp [Function.comp]
theorem CO (L M:List Int):K9 L++K9 M=K9 (L++M):=by
  refine Ts ?_
  rw [ByteArray.data_append,Array.toList_append,Fq,Fq,Fq,List.map_append]
theorem BJ (L:List Int)(i j:Nat):(K9 L).extract i j=K9 ((L.take j).drop i):=by
  refine Ts ?_
  rw [ByteArray.data_extract,Array.toList_extract,Fq,Fq,List.extract_eq_take_drop,List.map_drop,List.map_take,List.drop_take]
theorem Vd {L M:List Int}(h1:Pi L)(h2:Pi M)(h:K9 L=K9 M):L=M:=by rw [← Ph h1,← Ph h2,h]
theorem IR {L:List Int}(h:Pi L)(i:Int):HZ (K9 L) i=F2 L i:=by
  unfold HZ F2
  split
  ·have:((K9 L).data.toList[i.toNat]?).map (fun b=>(b.toNat:Int))=(Bc (K9 L))[i.toNat]?:=by unfold Bc;rw [lI]
   rw [this,Ph h]
  ·rfl
theorem Pz {L M:List Int}(h:L.length+M.length≤1000000000):CE (K9 L) (K9 M)=some (K9 (L++M)):=by
  unfold CE
  rw [bB (by rw [X5,X5];exact h),CO]
theorem Qa {L:List Int}{i j:Int}(h:0≤i∧i≤j∧j≤L.length):Yl (K9 L) i j=some (K9 ((L.take j.toNat).drop i.toNat)):=by
  unfold Yl
  rw [bB (by rw [X5];exact h),BJ]
theorem toList_eq {L M:List Int}(h1:Pi L)(h2:Pi M):((K9 L).toList==(K9 M).toList)=(L==M):=by
  have e: ∀a b:ByteArray,(a.toList==b.toList)=(a.data.toList==b.data.toList):=fun a b=>by rw [ByteArray.toList_eq,ByteArray.toList_eq]
  rw [e,Bool.eq_iff_iff,bF,bF]
  constructor
  ·intro h;exact Vd h1 h2 (Ts h)
  ·rintro rfl;rfl
end Go.Abs
/-! Writing and reading numbers as eight bytes: the loops. -/
namespace Go.Abs
open Go
def Co (ns:List Int):List Int:=ns.flatMap Ye
theorem Wk:Co []= []:=rfl
theorem Kb (n:Int)(r:List Int):Co (n::r)=Ye n++Co r:=rfl
theorem Cf (a b:List Int):Co (a++b)=Co a++Co b:=List.flatMap_append
theorem T8: ∀(ns:List Int),(Co ns).length=8*ns.length
  | []=>rfl
  |n::r=>by rw [Kb,lK,T8 r,Yw,lJ];omega
theorem Wl: ∀(ns:List Int),Pi (Co ns)
  | []=>Tq
  |n::r=>isB_append.2 ⟨NB n,Wl r⟩
theorem Jd {α:Type}(l:List α)(f:α→List Int):Co (l.flatMap f)=l.flatMap fun a=>Co (f a):=by
  induction l with
  |nil=>rfl
  |cons a r ih=>rw [l4,l4,Cf,ih]
/-- A loop over a list that writes something for each element. -/
theorem Yf {α σ τ:Type}(l:List α)(enc:α→List Int)(mk:Int→List Int→σ)(fin:List Int→τ)(F:σ→Option (Stp σ τ))
    (hF: ∀(i:Nat) a b,l[i]? =some a→b.length+ (enc a).length≤1000000000→F (mk i b)=some (.go (mk ((i+1:Nat):Int) (b++enc a)))) (h0: ∀b,F (mk l.length b)=some (.out (fin b)))
    (b:List Int) (hb:b.length+ (l.flatMap enc).length≤1000000000):loop F (mk 0 b)=some (fin (b++l.flatMap enc)):=by
  have key: ∀(r:List α) (i:Nat) (b:List Int),l.drop i=r→i≤l.length→b.length+ (r.flatMap enc).length≤1000000000→loop F (mk i b)=some (fin (b++r.flatMap enc)):=by
    intro r
    induction r with
    |nil=>
     intro i b hd hi _
     have:i=l.length:=by have:=AJ hd;omega
     rw [this,Gx (h0 b),List.flatMap_nil,lN]
    |cons a r ih=>
     intro i b hd hi hb
     rw [l4,lK]at hb
     have hlt:=FB hd
     have ha:l[i]? =some a:=by have:=congrArg (fun z=>z[0]?) hd;simpa using this
     rw [Tl (hF i a b ha (by omega)),ih (i+1) _ (Wz hd) hlt (by rw [lK];omega),lM,l4]
  exact key l 0 b rfl (bL _) hb
theorem Sz (n:Int):IntKind.wrap .u64 n=n % 18446744073709551616:=by
  unfold IntKind.wrap
  simp only [IntKind.bits,IntKind.signed,Bool.false_and,Bool.false_eq_true,if_false]
  rfl
theorem XC (n:Int):IntKind.wrap .u8 n=n % 256:=by
  unfold IntKind.wrap
  simp only [IntKind.bits,IntKind.signed,Bool.false_and,Bool.false_eq_true,if_false]
  rfl
theorem IS (n:Int)(k:Nat)(hk:k<64): ∃v,Yk .u64 (IntKind.wrap .u64 n) (IntKind.wrap .u64 (k:Int))=some v∧IntKind.wrap .u8 v=S6 n k:=by
  have e:IntKind.wrap .u64 (k:Int)=(k:Int):=by rw [Sz];omega
  refine ⟨_,by unfold Yk;rw [e,bC (by omega)],?_⟩
  rw [XC,Sz]
  unfold S6
  simp only [bJ,IntKind.bits,Nat.min_eq_left (Nat.le_of_lt hk)]
  rw [Int.fdiv_eq_ediv_of_nonneg _ (by exact Int.le_of_lt (Int.pow_pos (by omega)))]
/-- Eight bytes, from the greatest down. -/
theorem DZ {σ τ:Type}(n:Int)(mk:Int→List Int→σ)(fin:List Int→τ)(F:σ→Option (Stp σ τ))(c:Int)(d:Nat)
    (hF: ∀(k:Nat) b,k<8→b.length<1000000000→F (mk (c* (k:Int)) b)=some (.go (mk (c* ((k:Int) - 1)) (b++ [S6 n (8*k)])))) (h0: ∀b,F (mk (c* (-1)) b)=some (.out (fin b))) (b:List Int) (hb:b.length+8≤1000000000):
    loop F (mk (c*7) b)=some (fin (b++Ye n)):=by
  have s: ∀(k:Nat) (b:List Int),k<8→b.length<1000000000→loop F (mk (c* (k:Int)) b)=loop F (mk (c* ((k:Int) - 1)) (b++ [S6 n (8*k)])):=fun k b h1 h2=>Tl (hF k b h1 h2)
  have l1: ∀(b:List Int) x,(b++ [x]).length=b.length+1:=fun b x=>by simp
  have a7:=s 7 b (by omega) (by omega)
  have a6:=s 6 (b++ [S6 n 56]) (by omega) (by rw [l1];omega)
  have a5:=s 5 (b++ [S6 n 56]++ [S6 n 48]) (by omega) (by rw [l1,l1];omega)
  have a4:=s 4 (b++ [S6 n 56]++ [S6 n 48]++ [S6 n 40]) (by omega) (by rw [l1,l1,l1];omega)
  have a3:=s 3 (b++ [S6 n 56]++ [S6 n 48]++ [S6 n 40]++ [S6 n 32]) (by omega) (by rw [l1,l1,l1,l1];omega)
  have a2:=s 2 (b++ [S6 n 56]++ [S6 n 48]++ [S6 n 40]++ [S6 n 32]++ [S6 n 24]) (by omega) (by rw [l1,l1,l1,l1,l1];omega)
  have a1:=s 1 (b++ [S6 n 56]++ [S6 n 48]++ [S6 n 40]++ [S6 n 32]++ [S6 n 24]++ [S6 n 16]) (by omega) (by rw [l1,l1,l1,l1,l1,l1];omega)
  have a0:=s 0 (b++ [S6 n 56]++ [S6 n 48]++ [S6 n 40]++ [S6 n 32]++ [S6 n 24]++ [S6 n 16]++ [S6 n 8]) (by omega) (by rw [l1,l1,l1,l1,l1,l1,l1];omega)
  refine a7.trans (a6.trans (a5.trans (a4.trans (a3.trans (a2.trans (a1.trans (a0.trans ?_)))))))
  have e:((0:Nat):Int) - 1= -1:=by omega
  rw [e,Gx (h0 _)]
  simp [Ye]
/-- A byte more. -/
theorem IT {a b:Int}(ha:0≤a∧a<72057594037927936)(hb:0≤b∧b<256):
    IntKind.wrap .u64 (((BitVec.ofInt (IntKind.bits .u64) (IntKind.wrap .u64 (a*2^ (min (8:Int).toNat (IntKind.bits .u64))))|||(BitVec.ofInt (IntKind.bits .u64) (IntKind.wrap .u64 b))).toNat:Nat):Int)=a*256+b:=by
  obtain ⟨x,rfl⟩:=Int.eq_ofNat_of_zero_le ha.1
  obtain ⟨y,rfl⟩:=Int.eq_ofNat_of_zero_le hb.1
  have e1:IntKind.wrap .u64 ((x:Int)*2^ (min (8:Int).toNat (IntKind.bits .u64)))=((x*256:Nat):Int):=by
    rw [Sz,show (2:Int)^ (min (8:Int).toNat (IntKind.bits .u64))=256 from rfl];omega
  have e2:IntKind.wrap .u64 (y:Int)=(y:Int):=by rw [Sz];omega
  rw [e1,e2,BitVec.ofInt_natCast,BitVec.ofInt_natCast,BitVec.toNat_or,BitVec.toNat_ofNat,BitVec.toNat_ofNat]
  have h64:2^IntKind.bits .u64=18446744073709551616:=rfl
  rw [h64,Nat.mod_eq_of_lt (by omega),Nat.mod_eq_of_lt (by omega)]
  have:=Nat.two_pow_add_eq_or_of_lt (i:=8) (b:=y) (by omega) x
  rw [show x*256=2^8*x by omega,← this,Sz]
  omega
/-- Eight bytes are read. -/
theorem IU {L:List Int}(h8:L.length=8)(hB:Pi L)(F:Int×Int→Option (Stp (Int×Int) Int))
    (hF: ∀(i:Nat) a b,i<8→L[i]? =some b→0≤b∧b<256→0≤a∧a<72057594037927936→F (a,i)=some (.go (a*256+b,((i+1:Nat):Int)))) (h0: ∀a,F (a,8)=some (.out a)):loop F (0,0)=some (WW L):=by
  obtain ⟨b0,b1,b2,b3,b4,b5,b6,b7,rfl⟩:=TQ h8
  simp only [BH]at hB
  obtain ⟨g0,g1,g2,g3,g4,g5,g6,g7,_⟩:=hB
  have s: ∀(i:Nat) a b,i<8→ [b0,b1,b2,b3,b4,b5,b6,b7][i]? =some b→0≤b∧b<256→0≤a∧a<72057594037927936→loop F (a,(i:Int))=loop F (a*256+b,((i+1:Nat):Int)):=fun i a b h1 h2 h3 h4=>Tl (hF i a b h1 h2 h3 h4)
  refine (s 0 0 b0 (by omega) rfl g0 (by omega)).trans ((s 1 _ b1 (by omega) rfl g1 (by omega)).trans ((s 2 _ b2 (by omega) rfl g2 (by omega)).trans ((s 3 _ b3 (by omega) rfl g3 (by omega)).trans ((s 4 _ b4 (by omega) rfl g4 (by omega)).trans ((s 5 _ b5 (by omega) rfl g5 (by omega)).trans
    ((s 6 _ b6 (by omega) rfl g6 (by omega)).trans ((s 7 _ b7 (by omega) rfl g7 (by omega)).trans ?_)))))))
  exact Gx (h0 _)
end Go.Abs
/-! Readers of numbers: what they read of bytes that are right, and that they end on all bytes. -/
namespace Go.Abs
open Go
/-- rs: the reader's state, by the bytes that are left and a mark. inv: nothing that is read without a mark is written in another way. -/
structure PR {R α:Type}(rs:List Int→Bool→R)(inv:Bool)(f:R→Option (α×R))(enc:α→List Int)(ok Q:α→Prop):Prop where
  tot: ∀L b,Pi L→L.length≤100000→∃a L' b',f (rs L b)=some (a,rs L' b')∧Pi L'∧L'.length≤L.length∧(L'.length<L.length∨b'=true)∧(b=true→b'=true)∧Q a∧(inv=true→b'=false→L=Co (enc a)++L'∧ok a)
  fwd: ∀a L,ok a→Pi L→f (rs (Co (enc a)++L) false)=some (a,rs L false)
section
variable {R α β:Type}{rs:List Int→Bool→R}{inv:Bool}
def Az (f:R→Option (α×R))(g:R→Option (β×R))(r:R):Option ((α×β)×R):=(f r).bind fun v=>(g v.2).bind fun w=>some ((v.1,w.1),w.2)
def Oa (φ:α→β)(f:R→Option (α×R))(r:R):Option (β×R):=(f r).bind fun v=>some (φ v.1,v.2)
def Tw (f:R→Option (α×R)):Nat→R→Option (List α×R)
  |0,r=>some ([],r)
  |n+1,r=>(f r).bind fun v=>(Tw f n v.2).bind fun w=>some (v.1::w.1,w.2)
def Kv (c:R→Option (Int×R))(f:R→Option (α×R))(r:R):Option (List α×R):=(c r).bind fun v=>Tw f v.1.toNat v.2
theorem FP {b b':Bool}(h:b=true→b'=true)(h':b'=false):b=false:=by cases b<;>simp_all
theorem PR.pair {f:R→Option (α×R)}{g:R→Option (β×R)}{ef:α→List Int}{eg:β→List Int}{okf Qf:α→Prop}{okg Qg:β→Prop}(hf:PR rs inv f ef okf Qf)(hg:PR rs inv g eg okg Qg):
    PR rs inv (Az f g) (fun p=>ef p.1++eg p.2) (fun p=>okf p.1∧okg p.2) (fun p=>Qf p.1∧Qg p.2) where
  tot L b hB hL:=by
    obtain ⟨a,L1,b1,e1,B1,l1,s1,m1,q1,i1⟩:=hf.tot L b hB hL
    obtain ⟨c,L2,b2,e2,B2,l2,s2,m2,q2,i2⟩:=hg.tot L1 b1 B1 (by omega)
    refine ⟨(a,c),L2,b2,by unfold Az;rw [e1,lA];(try dsimp only);rw [e2];rfl,B2,by omega,?_,fun h=>m2 (m1 h),⟨q1,q2⟩,fun hi hb=> ?_⟩
    ·rcases s2 with h|h
     ·exact .inl (by omega)
     ·exact .inr h
    ·obtain ⟨h2,o2⟩:=i2 hi hb
     obtain ⟨h1,o1⟩:=i1 hi (FP m2 hb)
     exact ⟨by rw [h1,h2,Cf,lM],o1,o2⟩
  fwd p L ho hB:=by
    have hB2:Pi (Co (eg p.2)++L):=isB_append.2 ⟨Wl _,hB⟩
    unfold Az
    try dsimp only
    rw [Cf,lM,hf.fwd p.1 _ ho.1 hB2,lA]
    try dsimp only
    rw [hg.fwd p.2 L ho.2 hB];rfl
theorem PR.map {f:R→Option (α×R)}{ef:α→List Int}{okf Qf:α→Prop}(hf:PR rs inv f ef okf Qf)(φ:α→β)(ψ:β→α){ok Q:β→Prop}(h1: ∀b,φ (ψ b)=b)(h2: ∀a,ψ (φ a)=a)(ho: ∀b,ok b→okf (ψ b))(ho': ∀a,okf a→ok (φ a))(hq: ∀a,Qf a→Q (φ a)):
    PR rs inv (Oa φ f) (fun b=>ef (ψ b)) ok Q where
  tot L b hB hL:=by
    obtain ⟨a,L1,b1,e1,B1,l1,s1,m1,q1,i1⟩:=hf.tot L b hB hL
    refine ⟨φ a,L1,b1,by unfold Oa;rw [e1];rfl,B1,l1,s1,m1,hq a q1,fun hi hb=> ?_⟩
    obtain ⟨h,o⟩:=i1 hi hb
    exact ⟨by rw [h2];exact h,ho' a o⟩
  fwd c L hc hB:=by
    unfold Oa
    rw [hf.fwd (ψ c) L (ho c hc) hB,lA]
    try dsimp only
    rw [h1]
theorem PR.weak {f:R→Option (α×R)}{ef ef':α→List Int}{ok ok' Q Q':α→Prop}(h:PR rs inv f ef ok Q)(he: ∀a,ef' a=ef a)(h1: ∀a,ok' a→ok a)(h1': ∀a,ok a→ok' a)(h2: ∀a,Q a→Q' a):PR rs inv f ef' ok' Q' where
  tot L b hB hL:=by
    obtain ⟨a,L1,b1,e1,B1,l1,s1,m1,q1,i1⟩:=h.tot L b hB hL
    exact ⟨a,L1,b1,e1,B1,l1,s1,m1,h2 a q1,fun hi hb=>⟨by rw [he];exact (i1 hi hb).1,h1' a (i1 hi hb).2⟩⟩
  fwd a L ha hB:=by rw [he];exact h.fwd a L (h1 a ha) hB
theorem PR.no {f:R→Option (α×R)}{ef:α→List Int}{ok Q:α→Prop}(h:PR rs true f ef ok Q):PR rs false f ef ok Q where
  tot L b hB hL:=by
    obtain ⟨a,L1,b1,e1,B1,l1,s1,m1,q1,i1⟩:=h.tot L b hB hL
    exact ⟨a,L1,b1,e1,B1,l1,s1,m1,q1,nofun⟩
  fwd:=h.fwd
theorem NC {f:R→Option (α×R)}{ef:α→List Int}{ok Q:α→Prop}(h:PR rs inv f ef ok Q): ∀(n:Nat) (L:List Int) (b:Bool),Pi L→L.length≤100000→
    ∃l L' b',Tw f n (rs L b)=some (l,rs L' b')∧Pi L'∧L'.length≤L.length∧(b=true→b'=true)∧l.length=n∧(∀a∈l,Q a)∧(inv=true→b'=false→L=Co (l.flatMap ef)++L'∧∀a∈l,ok a)
  |0,L,b,hB,_=>⟨[],L,b,rfl,hB,bK _,id,rfl,nofun,fun _ _=>⟨rfl,nofun⟩⟩
  |n+1,L,b,hB,hL=>by
   obtain ⟨a,L1,b1,e1,B1,l1,s1,m1,q1,i1⟩:=h.tot L b hB hL
   obtain ⟨l,L2,b2,e2,B2,l2,m2,n2,q2,i2⟩:=NC h n L1 b1 B1 (by omega)
   refine ⟨a::l,L2,b2,by rw [Tw,e1,lA];(try dsimp only);rw [e2];rfl,B2,by omega,fun h=>m2 (m1 h),by rw [lJ,n2],fun x hx=> ?_,fun hi hb=> ?_⟩
   ·rcases lS.1 hx with rfl|hx
    ·exact q1
    ·exact q2 x hx
   ·obtain ⟨h2,o2⟩:=i2 hi hb
    obtain ⟨h1,o1⟩:=i1 hi (FP m2 hb)
    refine ⟨by rw [h1,h2,l4,Cf,lM],fun x hx=> ?_⟩
    rcases lS.1 hx with rfl|hx
    ·exact o1
    ·exact o2 x hx
theorem ND {f:R→Option (α×R)}{ef:α→List Int}{ok Q:α→Prop}(h:PR rs inv f ef ok Q): ∀(l:List α) (L:List Int),(∀a∈l,ok a)→Pi L→Tw f l.length (rs (Co (l.flatMap ef)++L) false)=some (l,rs L false)
  | [],L,_,_=>rfl
  |a::r,L,ho,hB=>by
   have hB2:Pi (Co (r.flatMap ef)++L):=isB_append.2 ⟨Wl _,hB⟩
   rw [lJ,Tw,l4,Cf,lM,h.fwd a _ (ho a (List.mem_cons_self ..)) hB2,lA]
   try dsimp only
   rw [ND h r L (fun x hx=>ho x (List.mem_cons_of_mem _ hx)) hB];rfl
/-- How many rows, then the rows. -/
theorem PR.list {c:R→Option (Int×R)}{f:R→Option (α×R)}{ef:α→List Int}{ok Q:α→Prop}{cap:Nat}(hc:PR rs inv c (fun n=> [n]) (fun n=>0≤n∧n≤(cap:Int)) (fun n=>0≤n∧n≤(cap:Int)))(h:PR rs inv f ef ok Q):
    PR rs inv (Kv c f) (fun l=>(l.length:Int)::l.flatMap ef) (fun l=>l.length≤cap∧∀a∈l,ok a) (fun l=>l.length≤cap∧∀a∈l,Q a) where
  tot L b hB hL:=by
    obtain ⟨n,L1,b1,e1,B1,l1,s1,m1,q1,i1⟩:=hc.tot L b hB hL
    obtain ⟨l,L2,b2,e2,B2,l2,m2,n2,q2,i2⟩:=NC h n.toNat L1 b1 B1 (by omega)
    refine ⟨l,L2,b2,by unfold Kv;rw [e1,lA];(try dsimp only);rw [e2],B2,by omega,?_,fun h=>m2 (m1 h),⟨by omega,q2⟩,fun hi hb=> ?_⟩
    ·rcases s1 with h|h
     ·exact .inl (by omega)
     ·exact .inr (m2 h)
    ·obtain ⟨h2,o2⟩:=i2 hi hb
     obtain ⟨h1,o1⟩:=i1 hi (FP m2 hb)
     have:(l.length:Int)=n:=by omega
     refine ⟨by rw [h1,h2,this,Kb,Kb,Wk,lN,lM],by omega,o2⟩
  fwd l L ho hB:=by
    have hB2:Pi (Co (l.flatMap ef)++L):=isB_append.2 ⟨Wl _,hB⟩
    have:=hc.fwd (l.length:Int) _ ⟨by omega,by have:=ho.1;omega⟩ hB2
    rw [Kb,Wk,lN]at this
    unfold Kv
    rw [Kb,lM,this,lA]
    try dsimp only
    rw [bJ,ND h l L ho.2 hB]
/-- A loop that counts down. -/
theorem TR {σ τ:Type}{f:R→Option (α×R)}(mk:Int→R→List α→σ)(fin:R→List α→τ)(F:σ→Option (Stp σ τ))
    (hF: ∀i r out,F (mk i r out)=cond (decide (i>0)) ((f r).bind fun v=>(Y4 out [v.1]).bind fun o=>some (.go (mk (J6 (i - 1)) v.2 o))) (some (.out (fin r out)))):
    ∀(n:Nat) (r:R) (out:List α),out.length+n≤1000000000→loop F (mk n r out)=(Tw f n r).bind fun w=>some (fin w.2 (out++w.1)):=by
  intro n
  induction n with
  |zero=>
   intro r out _
   rw [Gx (by rw [hF,l7 (by omega)];rfl),Tw,lA,lN]
  |succ n ih=>
   intro r out hn
   rw [Qk,hF,l6 (by omega),l9,Tw]
   cases f r with
   |none=>rfl
   |some v=>
    rw [lA,Tk (by simp;omega),lA,lA]
    dsimp only
    rw [Jn (by omega),show ((n+1:Nat):Int) - 1=(n:Int) by omega,ih v.2 _ (by simp;omega)]
    cases Tw f n v.2 with
    |none=>rfl
    |some w=>simp
end
end Go.Abs
namespace Go.Abs
open Go
theorem NE {α β:Type}{x:Option α}{f g:α→Option β}(h: ∀a,f a=g a):x.bind f=x.bind g:=by rw [funext h]
/-- A loop that counts down from a number that is read. -/
theorem FQ {R α σ τ γ:Type}{f:R→Option (α×R)}{c:R→Option (Int×R)}(cap:Nat)(hcap:cap≤1000000)(mk:Int→R→List α→σ)(fin:R→List α→τ)(F:σ→Option (Stp σ τ))(r:R)(K:τ→Option γ)(hc: ∀v,c r=some v→0≤v.1∧v.1≤(cap:Int))
    (hF: ∀i r out,F (mk i r out)=cond (decide (i>0)) ((f r).bind fun v=>(Y4 out [v.1]).bind fun o=>some (.go (mk (J6 (i - 1)) v.2 o))) (some (.out (fin r out)))):
    (c r).bind (fun v=>(loop F (mk v.1 v.2 [])).bind K)=(Kv c f r).bind fun w=>K (fin w.2 w.1):=by
  unfold Kv
  cases q:c r with
  |none=>rfl
  |some v=>
   have hv:=hc v q
   rw [lA,lA]
   have:=TR mk fin F hF v.1.toNat v.2 [] (by simp;omega)
   rw [show ((v.1.toNat:Nat):Int)=v.1 by omega]at this
   rw [this]
   cases Tw f v.1.toNat v.2<;>rfl
end Go.Abs
namespace Go.Abs
open Go
theorem PR.mapT {R α β:Type}{rs:List Int→Bool→R}{f:R→Option (α×R)}{ef:α→List Int}{okf Qf:α→Prop}(hf:PR rs true f ef okf Qf)(φ:α→β)(ψ:β→α){eb:β→List Int}{ok Q:β→Prop}(h1: ∀b,φ (ψ b)=b)(h2: ∀a,ψ (φ a)=a)(he: ∀b,eb b=ef (ψ b))(ho: ∀b,ok b↔okf (ψ b))(hq: ∀a,Qf a→Q (φ a)):
    PR rs true (Oa φ f) eb ok Q where
  tot L b hB hL:=by
    obtain ⟨a,L1,b1,e1,B1,l1,s1,m1,q1,i1⟩:=hf.tot L b hB hL
    refine ⟨φ a,L1,b1,by unfold Oa;rw [e1];rfl,B1,l1,s1,m1,hq a q1,fun hi hb=> ?_⟩
    obtain ⟨h,o⟩:=i1 hi hb
    exact ⟨by rw [he,h2];exact h,(ho _).2 (by rw [h2];exact o)⟩
  fwd c L hc hB:=by
    unfold Oa
    rw [he,hf.fwd (ψ c) L ((ho c).1 hc) hB,lA]
    try dsimp only
    rw [h1]
end Go.Abs
namespace Go.Abs
open Go
theorem PR.mapB {R α β:Type}{rs:List Int→Bool→R}{f:R→Option (α×R)}{ef:α→List Int}{okf Qf:α→Prop}(hf:PR rs true f ef okf Qf)(φ:α→β)(ψ:β→α){eb:β→List Int}{ok Q:β→Prop}(h1: ∀b,φ (ψ b)=b)(h2: ∀a,okf a→ψ (φ a)=a)(he: ∀b,eb b=ef (ψ b))(ho: ∀b,ok b↔okf (ψ b))(hq: ∀a,Qf a→Q (φ a)):
    PR rs true (Oa φ f) eb ok Q where
  tot L b hB hL:=by
    obtain ⟨a,L1,b1,e1,B1,l1,s1,m1,q1,i1⟩:=hf.tot L b hB hL
    refine ⟨φ a,L1,b1,by unfold Oa;rw [e1];rfl,B1,l1,s1,m1,hq a q1,fun hi hb=> ?_⟩
    obtain ⟨h,o⟩:=i1 hi hb
    exact ⟨by rw [he,h2 a o];exact h,(ho _).2 (by rw [h2 a o];exact o)⟩
  fwd c L hc hB:=by
    unfold Oa
    rw [he,hf.fwd (ψ c) L ((ho c).1 hc) hB,lA]
    try dsimp only
    rw [h1]
/-- A loop that counts up. -/
theorem PE {R α σ τ:Type}{f:R→Option (α×R)}(n:Nat)(hn:n≤1000000)(mk:Int→R→List α→σ)(fin:R→List α→τ)(F:σ→Option (Stp σ τ))
    (hF: ∀i r out,F (mk i r out)=cond (decide (i< (n:Int))) ((f r).bind fun v=>(Y4 out [v.1]).bind fun o=>some (.go (mk (J6 (i+1)) v.2 o))) (some (.out (fin r out)))):
    ∀(k:Nat) (i:Nat) (r:R) (out:List α),i+k=n→out.length+k≤1000000000→loop F (mk i r out)=(Tw f k r).bind fun w=>some (fin w.2 (out++w.1)):=by
  intro k
  induction k with
  |zero=>
   intro i r out hi _
   rw [Gx (by rw [hF,l7 (by omega)];rfl),Tw,lA,lN]
  |succ k ih=>
   intro i r out hi hk
   rw [Qk,hF,l6 (by omega),l9,Tw]
   cases f r with
   |none=>rfl
   |some v=>
    rw [lA,Tk (by simp;omega),lA,lA]
    dsimp only
    rw [Jn (by omega),show (i:Int)+1=((i+1:Nat):Int) by omega,ih (i+1) v.2 _ (by omega) (by simp;omega)]
    cases Tw f k v.2 with
    |none=>rfl
    |some w=>simp
theorem BK {R α σ τ γ:Type}{f:R→Option (α×R)}{c:R→Option (Int×R)}(cap:Nat)(hcap:cap≤1000000)(mk:Int→R→List α→σ)(fin:R→List α→τ)(F:Int×R→σ→Option (Stp σ τ))(r:R)(K:τ→Option γ)(hc: ∀v,c r=some v→0≤v.1∧v.1≤(cap:Int))
    (hF: ∀w i r out,F w (mk i r out)=cond (decide (i<w.1)) ((f r).bind fun v=>(Y4 out [v.1]).bind fun o=>some (.go (mk (J6 (i+1)) v.2 o))) (some (.out (fin r out)))):
    (c r).bind (fun v=>(loop (F v) (mk 0 v.2 [])).bind K)=(Kv c f r).bind fun w=>K (fin w.2 w.1):=by
  unfold Kv
  cases q:c r with
  |none=>rfl
  |some v=>
   have hv:=hc v q
   rw [lA,lA]
   have e:((v.1.toNat:Nat):Int)=v.1:=by omega
   have:=PE v.1.toNat (by omega) mk fin (F v) (fun i r out=>by rw [e];exact hF v i r out) v.1.toNat 0 v.2 [] (by omega) (by simp;omega)
   rw [show ((0:Nat):Int)=0 from rfl]at this
   rw [this]
   cases Tw f v.1.toNat v.2<;>rfl
end Go.Abs
/-! The bytes of a state. -/
namespace Go.Abs.World
open Go Go.Abs
noncomputable def cZ (v:Int)(x:List Int×Int):Option (Stp (List Int×Int) (List Int)):=
  cond (decide (x.2≥0)) ((Yk .u64 (IntKind.wrap .u64 v) (IntKind.wrap .u64 x.2)).bind fun v2=>(Y4 x.1 [(IntKind.wrap .u8 v2)]).bind fun v3=>some (.go (v3,(J6 (x.2 - 8))))) (some (.out x.1))
noncomputable def dA (ns:List Int)(x:List Int×Int):Option (Stp (List Int×Int) (List Int)):=
  cond (decide (x.2< (ns.length:Int))) ((F2 ns x.2).bind fun v=>(loop (cZ v) (x.1,56)).bind fun y=>some (.go (y,(J6 (x.2+1))))) (some (.out x.1))
noncomputable def YK (ns:List Int)(b:List Int):Option (List Int):=(loop (dA ns) (b,0)).bind fun y=>some y
theorem aP (v:Int)(b:List Int)(hb:b.length+8≤1000000000):loop (cZ v) (b,56)=some (b++Ye v):=
  DZ v (fun k b=>(b,k)) (fun b=>b) (cZ v) 8 1 (fun k b hk hb=>by
   obtain ⟨x,e1,e2⟩:=IS v (8*k) (by omega)
   unfold cZ
   rw [l6 (show (8:Int)* (k:Int)≥0 by omega),l9,show (8:Int)* (k:Int)=((8*k:Nat):Int) by omega,e1,lA,e2,Tk (by simp;omega),lA,Jn (by omega)]
   congr 4;omega) (fun b=>rfl) b hb
theorem Xl {ns:List Int}{b:List Int}(hn:ns.length≤1000000)(hb:b.length+8*ns.length≤1000000000):YK ns b=some (b++Co ns):=by
  have:=Yf ns Ye (fun i b=>(b,i)) (fun b=>b) (dA ns) (fun i a b ha hb=>by
    unfold dA
    rw [Fp (V0 ha),l9,Q6 ha,lA,aP a b (by rw [Yw]at hb;exact hb),lA,X8 (V0 ha) (by omega)]) (fun b=>by unfold dA;rw [Ce];rfl) b (by rw [show ns.flatMap Ye=Co ns from rfl,T8];exact hb)
  unfold YK
  rw [this];rfl
def Wm (b:Bool):Int:=if b then 1 else 0
theorem TS (b:Bool):Px b=some (Wm b):=by cases b<;>rfl
def Fr (a:Agent):List Int:= [(a.Route.length:Int)]++ (a.Route++ [a.S,a.V,a.Len,a.Begin,Wm a.Obey,Wm a.Gone])
def Oo (x:Stay):List Int:= [x.Agent_,x.Zone_,x.Since,x.Rank]
def Gu (s:State):List Int:= [s.Tick,(s.Agents.length:Int)]++ (s.Agents.flatMap Fr++ ([(s.In.length:Int)]++s.In.flatMap Oo))
def mark4:List Int:= [107,98,119,49]
def BL (s:State):List Int:=mark4++Co (Gu s)
theorem Oq (l:List Int):l.flatMap (fun n=>Co [n])=Co l:=by rw [show (fun n:Int=>Co [n])=Ye from funext fun n=>lN _];rfl
theorem XD {α:Type}(l:List α)(f:α→List Int):(l.flatMap fun a=>Co (f a)).length=8* (l.flatMap f).length:=by rw [← Jd,T8]
/-! ### The program -/
theorem TT (g:Agent)(b:List Int)(hl:g.Route.length≤1000000)(hb:b.length+8*g.Route.length≤1000000000):loop (Au g) (b,0)=some (b++Co g.Route):=by
  rw [← Oq]
  exact Yf g.Route (fun p=>Co [p]) (fun i b=>(b,i)) (fun b=>b) (Au g) (fun i a b ha hb=>by
    rw [T8]at hb
    unfold Au
    rw [Fp (V0 ha),l9,Q6 ha,lA,show Ns (b,(i:Int)) a=YK [a] b from rfl,Xl (by simp) hb,lA,X8 (V0 ha) (by omega)]) (fun b=>by unfold Au;rw [Ce];rfl) b (by rw [Oq,T8];exact hb)
theorem PF (s:State)(S:SizeS s)(b:List Int)(hb:b.length+8* (s.Agents.flatMap Fr).length≤1000000000):loop (Av s) (b,0)=some (b++Co (s.Agents.flatMap Fr)):=by
  rw [Jd]
  refine Yf s.Agents (fun p=>Co (Fr p)) (fun i b=>(b,i)) (fun b=>b) (Av s) (fun i a b ha hb=> ?_) (fun b=>by unfold Av;rw [Ce];rfl) b (by rw [XD];exact hb)
  have hn:=S.routes a (lF ha)
  have hlen:=S.agents
  rw [T8]at hb
  simp only [Fr,lK,lJ,lL]at hb
  unfold Av
  rw [Fp (V0 ha),l9,Q6 ha,lA,show Nv (b,(i:Int)) a=YK [(a.Route.length:Int)] b from rfl,Xl (by simp) (by simp;omega),lA,
   TT a _ (by omega) (by simp only [lK,T8,lJ,lL];omega),lA,TS,TS,lA,lA,
   show Lx a _ (Wm a.Obey) (Wm a.Gone)=YK [a.S,a.V,a.Len,a.Begin,Wm a.Obey,Wm a.Gone] _ from rfl,Xl (by simp) (by simp only [lK,T8,lJ,lL];omega),lA,X8 (V0 ha) (by omega)]
  simp only [Fr,Cf,lM]
theorem TU (s:State)(S:SizeS s)(b:List Int)(hb:b.length+8* (s.In.flatMap Oo).length≤1000000000):loop (Z8 s) (b,0)=some (b++Co (s.In.flatMap Oo)):=by
  have hlen:=S.ins
  rw [Jd]
  exact Yf s.In (fun p=>Co (Oo p)) (fun i b=>(b,i)) (fun b=>b) (Z8 s) (fun i a b ha hb=>by
    rw [T8]at hb
    unfold Z8
    rw [Fp (V0 ha),l9,Q6 ha,lA,show Lq (b,(i:Int)) a=YK (Oo a) b from rfl,Xl (by simp [Oo]) hb,lA,X8 (V0 ha) (by omega)]) (fun b=>by unfold Z8;rw [Ce];rfl) b (by rw [XD];exact hb)
theorem TV {α:Type}(f:α→List Int)(c:Nat): ∀(l:List α),(∀a∈l,(f a).length≤c)→(l.flatMap f).length≤l.length*c
  | [],_=>by simp
  |a::r,h=>by
   rw [l4,lK,lJ,bM]
   have:=TV f c r fun x hx=>h x (List.mem_cons_of_mem _ hx)
   have:=h a (List.mem_cons_self ..)
   omega
theorem IV {s:State}(S:SizeS s):(Gu s).length≤10000000:=by
  have a:=TV Fr 1010 s.Agents fun g hg=>by
    have:=S.routes g hg
    simp only [Fr,lK,lJ,lL]
    omega
  have b:=TV Oo 4 s.In fun x _=>bK 4
  have:=S.agents
  have:=S.ins
  simp only [Gu,lK,lJ,lL]
  omega
theorem PG {s:State}(S:SizeS s):Kt s=some (K9 (BL s)):=by
  have hs:=IV S
  simp only [Gu,lK,lJ,lL]at hs
  unfold Kt
  rw [show Ny s=YK [s.Tick,(s.Agents.length:Int)] mark4 from rfl,Xl (by simp) (by simp [mark4]),lA,
   PF s S _ (by simp only [lK,T8,lJ,lL,mark4];omega),lA,
   show Lu s _=YK [(s.In.length:Int)] _ from rfl,Xl (by simp) (by simp only [lK,T8,lJ,lL,mark4];omega),lA,
   TU s S _ (by simp only [lK,T8,lJ,lL,mark4];omega),lA]
  simp only [BL,Gu,Cf,lM]
/-! ### The document -/
theorem XE (ns:List Int)(x1:List Int×Int){i:Nat}{n:Int}(h1:x1.2=(i:Int))(hn:ns[i]? =some n)(b:List Int)(hb:b.length+8≤1000000000):loop (Bo ns x1) (b,7)=some (b++Ye n):=
  DZ n (fun k b=>(b,k)) (fun b=>b) (Bo ns x1) 1 1 (fun k b hk hb=>by
   obtain ⟨x,e1,e2⟩:=IS n (8*k) (by omega)
   unfold Bo
   rw [l6 (show (1:Int)* (k:Int)≥0 by omega),l9,h1,Q6 hn,lA,show (8:Int)* (1* (k:Int))=((8*k:Nat):Int) by omega,Jn (show -9223372036854775808≤((8*k:Nat):Int)∧((8*k:Nat):Int)≤9223372036854775807 by omega),e1,lA,e2,Tk (by simp;omega),lA,Jn (by omega)]
   congr 4;omega) (fun b=>rfl) b hb
theorem Mu {ns:List Int}(hn:ns.length≤1000000):Y9 ns=some (K9 (Co ns)):=by
  have:=Yf ns Ye (fun i b=>(b,i)) (fun b=>b) (Bp ns) (fun i a b ha hb=>by
    unfold Bp
    rw [Fp (V0 ha),l9,XE ns (b,(i:Int)) rfl ha b (by rw [Yw]at hb;exact hb),lA,X8 (V0 ha) (by omega)]) (fun b=>by unfold Bp;rw [Ce];rfl) [] (by rw [show ns.flatMap Ye=Co ns from rfl,T8];simp;omega)
  unfold Y9
  rw [this];rfl
theorem PH (g:Agent)(b:List Int)(hl:g.Route.length≤1000000)(hb:b.length+8*g.Route.length≤1000000000):loop (Ax g) (K9 b,0)=some (K9 (b++Co g.Route)):=by
  rw [← Oq]
  exact Yf g.Route (fun p=>Co [p]) (fun i b=>(K9 b,i)) K9 (Ax g) (fun i a b ha hb=>by
    unfold Ax
    rw [Fp (V0 ha),l9,Q6 ha,lA,Mu (by simp),lA,Pz hb,lA,X8 (V0 ha) (by omega)]) (fun b=>by unfold Ax;rw [Ce];rfl) b (by rw [Oq,T8];exact hb)
theorem IW (b:Bool):cond b (some (1:Int)) (some 0)=some (Wm b):=by cases b<;>rfl
theorem LJ (s:State)(S:SizeS s)(b:List Int)(hb:b.length+8* (s.Agents.flatMap Fr).length≤1000000000):loop (Ay s) (K9 b,0)=some (K9 (b++Co (s.Agents.flatMap Fr))):=by
  rw [Jd]
  refine Yf s.Agents (fun p=>Co (Fr p)) (fun i b=>(K9 b,i)) K9 (Ay s) (fun i a b ha hb=> ?_) (fun b=>by unfold Ay;rw [Ce];rfl) b (by rw [XD];exact hb)
  have hn:=S.routes a (lF ha)
  have hlen:=S.agents
  rw [T8]at hb
  simp only [Fr,lK,lJ,lL]at hb
  unfold Ay
  rw [Fp (V0 ha),l9,Q6 ha,lA,Mu (by simp),lA,Pz (by simp only [T8,lJ,lL];omega),lA,
   PH a _ (by omega) (by simp only [lK,T8,lJ,lL];omega),lA,IW,IW,lA,lA,Mu (by simp),lA,
   Pz (by simp only [lK,T8,lJ,lL];omega),lA,lA,X8 (V0 ha) (by omega)]
  simp only [Fr,Cf,lM]
theorem PI (s:State)(S:SizeS s)(b:List Int)(hb:b.length+8* (s.In.flatMap Oo).length≤1000000000):loop (Aw s) (K9 b,0)=some (K9 (b++Co (s.In.flatMap Oo))):=by
  have hlen:=S.ins
  rw [Jd]
  exact Yf s.In (fun p=>Co (Oo p)) (fun i b=>(K9 b,i)) K9 (Aw s) (fun i a b ha hb=>by
    unfold Aw
    rw [Fp (V0 ha),l9,Q6 ha,lA,lA,lA,lA,show [a.Agent_,a.Zone_,a.Since,a.Rank]=Oo a from rfl,Mu (by simp [Oo]),lA,Pz hb,lA,X8 (V0 ha) (by omega)]) (fun b=>by unfold Aw;rw [Ce];rfl) b (by rw [XD];exact hb)
theorem PJ {s:State}(S:SizeS s):Ku s=some (K9 (BL s)):=by
  have hs:=IV S
  simp only [Gu,lK,lJ,lL]at hs
  unfold Ku
  rw [Mu (by simp),lA,show ByteArray.mk #[107,98,119,49]=K9 mark4 from rfl,Pz (by simp [mark4,T8]),lA,
   LJ s S _ (by simp only [lK,T8,lJ,lL,mark4];omega),lA,Mu (by simp),lA,Pz (by simp only [lK,T8,lJ,lL,mark4];omega),lA,
   PI s S _ (by simp only [lK,T8,lJ,lL,mark4];omega),lA]
  simp only [BL,Gu,Cf,lM]
theorem IX:Pi mark4:=by intro b hb;simp only [mark4,lS,List.not_mem_nil,or_false]at hb;omega
abbrev NF (L:List Int)(b:Bool):WorldReader:=⟨K9 L,b⟩
abbrev NG (L:List Int)(b:Bool):Ref04Reader:=⟨K9 L,b⟩
theorem TW {L:List Int}(h:8≤L.length):(L.take 8).length=8:=by rw [lT];omega
def FR (a:Agent):Prop:=(a.Route.length≤8∧∀n∈a.Route,R0 n)∧R0 a.S∧R0 a.V∧R0 a.Len∧R0 a.Begin
def BM (x:Stay):Prop:=R0 x.Agent_∧R0 x.Zone_∧R0 x.Since∧R0 x.Rank
def Qt (s:State):Prop:=R0 s.Tick∧(s.Agents.length≤8∧∀a∈s.Agents,FR a)∧(s.In.length≤96∧∀x∈s.In,BM x)
theorem NH {R:Type}{rs:List Int→Bool→R}{f:R→Option (Int×R)}{z:List Int→List Int}(hz: ∀L,Pi L→L.length<8→Pi (z L)∧(z L).length≤L.length)(h1: ∀L b,L.length<8→f (rs L b)=some (0,rs (z L) true))(h2: ∀L b,Pi L→8≤L.length→f (rs L b)=some (YJ (L.take 8),rs (L.drop 8) b)):
    PR rs true f (fun n=> [n]) R0 R0 where
  tot L b hB _:=by
    by_cases h:L.length<8
    ·obtain ⟨z1,z2⟩:=hz L hB h
     exact ⟨0,z L,true,h1 L b h,z1,z2, .inr rfl,fun _=>rfl,by unfold R0;omega,fun _=>nofun⟩
    ·exact ⟨_,_,b,h2 L b hB (by omega),BI hB 8,by rw [lU];omega, .inl (by rw [lU];omega),id,DY _,fun _ _=>⟨by
       rw [Kb,Wk,lN,WZ (TW (by omega)) (Sy hB 8),List.take_append_drop],DY _⟩⟩
  fwd n L hn hB:=by
    rw [Kb,Wk,lN,h2 _ _ (isB_append.2 ⟨NB n,hB⟩) (by rw [lK,Yw];omega)]
    rw [show (Ye n++L).take 8=Ye n from List.take_left' rfl,show (Ye n++L).drop 8=L from List.drop_left' rfl,XB hn]
theorem LK {L:List Int}{b:Bool}(h:L.length<8):C8 (NF L b)=some (0,NF L true):=by
  unfold C8
  rw [X5,l6 (show (L.length:Int)<8 by omega)];rfl
theorem PK {L:List Int}{b:Bool}(hB:Pi L)(h:8≤L.length):C8 (NF L b)=some (YJ (L.take 8),NF (L.drop 8) b):=by
  have hB8:=Sy hB 8
  have h8:=TW h
  unfold C8
  rw [X5,l7 (show ¬((L.length:Int)<8) by omega),bA,
   IU h8 hB8 (T4 (NF L b)) (fun i a x hi hx hb ha=>by
    unfold T4
    rw [l6 (show (a,(i:Int)).2<8 by dsimp only;omega),l9,IR hB,Q6 (show L[i]? =some x by rw [l3,bB hi]at hx;exact hx),lA]
    dsimp only
    rw [IT ha hb,X8 (n:=8) hi (by omega)]) (fun a=>by unfold T4;rfl),lA,Qa (i:=8) (j:=(L.length:Int)) (by omega),lA,
   show ((L.take (L.length:Int).toNat).drop (8:Int).toNat)=L.drop 8 by rw [bJ,List.take_length];rfl]
  rfl
theorem next_pr:PR NF true C8 (fun n=> [n]) R0 R0:=NH (z:=fun L=>L) (fun _ hB _=>⟨hB,bK _⟩) (fun _ _ h=>LK h) (fun _ _ hB h=>PK hB h)
noncomputable abbrev cR (c:Nat)(r:WorldReader):=L7 r (c:Int)
theorem NI (c:Nat)(hc:c≤1099511627776):PR NF true (cR c) (fun n=> [n]) (fun n=>0≤n∧n≤(c:Int)) (fun n=>0≤n∧n≤(c:Int)) where
  tot L b hB hL:=by
    obtain ⟨n,L1,b1,e1,B1,l1,s1,m1,q1,i1⟩:=next_pr.tot L b hB hL
    unfold cR L7
    try dsimp only
    rw [e1,lA]
    by_cases h:0≤n∧n≤(c:Int)
    ·rw [l7 (show ¬(n<0) by omega),l7 (show ¬(n>(c:Int)) by omega)]
     exact ⟨n,L1,b1,rfl,B1,l1,s1,m1,h,fun hi hb=>⟨(i1 hi hb).1,h⟩⟩
    ·rw [show (decide (n<0)||decide (n>(c:Int)))=true by rw [bE,l8,l8];omega]
     exact ⟨0,L1,true,rfl,B1,l1, .inr rfl,fun _=>rfl,by omega,fun _=>nofun⟩
  fwd n L hn hB:=by
    unfold cR L7
    rw [next_pr.fwd n L (by unfold R0;omega) hB,lA]
    try dsimp only
    rw [l7 (show ¬(n<0) by omega),l7 (show ¬(n>(c:Int)) by omega)];rfl
theorem BN (c:Nat)(r:WorldReader)(v:Int×WorldReader)(h:cR c r=some v):0≤v.1∧v.1≤(c:Int):=by
  unfold cR L7 at h
  cases q:C8 r with
  |none=>rw [q]at h;cases h
  |some x=>
   rw [q,lA]at h
   by_cases hc:(decide (x.1<0)||decide (x.1>(c:Int)))=true
   ·rw [hc]at h
    cases h;dsimp only;omega
   ·rw [Bool.eq_false_iff.2 hc]at h
    cases h
    rw [bE,l8,l8]at hc
    dsimp only;omega
noncomputable def NJ:WorldReader→Option (Bool×WorldReader):=Oa (fun n=>n==1) (cR 1)
theorem bool_pr:PR NF true NJ (fun b=> [Wm b]) (fun _=>True) (fun _=>True):=
  (NI 1 (by omega)).mapB (fun n=>n==1) Wm (fun b=>by cases b<;>rfl) (fun n h=>by
    by_cases q:n=1
    ·subst q;rfl
    ·obtain rfl:n=0:=by omega
     rfl) (fun _=>rfl) (fun b=>by cases b<;>simp [Wm]) (fun _ _=>trivial)
noncomputable def LL:WorldReader→Option (List Int×WorldReader):=Kv (cR 8) C8
theorem route_pr:PR NF true LL (fun l=>(l.length:Int)::l) (fun l=>l.length≤8∧∀n∈l,R0 n) (fun l=>l.length≤8∧∀n∈l,R0 n):=
  ((NI 8 (by omega)).list next_pr).weak (fun l=>by congr 1;simp) (fun _ h=>h) (fun _ h=>h) (fun _ h=>h)
noncomputable def Xm:WorldReader→Option (Agent×WorldReader):=Oa (fun p=>Agent.mk p.1 p.2.1 p.2.2.1 p.2.2.2.1 p.2.2.2.2.1 p.2.2.2.2.2.1 p.2.2.2.2.2.2)
  (Az LL (Az C8 (Az C8 (Az C8 (Az C8 (Az NJ NJ))))))
theorem TX:PR NF true Xm Fr FR (fun a=>a.Route.length≤8):=
  (route_pr.pair (next_pr.pair (next_pr.pair (next_pr.pair (next_pr.pair (bool_pr.pair bool_pr)))))).mapT _ (fun (a:Agent)=>(a.Route,a.S,a.V,a.Len,a.Begin,a.Obey,a.Gone)) (fun _=>rfl) (fun _=>rfl) (fun a=>by simp [Fr])
    (fun b=>⟨fun h=>⟨h.1,h.2.1,h.2.2.1,h.2.2.2.1,h.2.2.2.2,trivial,trivial⟩,fun h=>⟨h.1,h.2.1,h.2.2.1,h.2.2.2.1,h.2.2.2.2.1⟩⟩) (fun p h=>h.1.1)
noncomputable def EA:WorldReader→Option (Stay×WorldReader):=Oa (fun p=>Stay.mk p.1 p.2.1 p.2.2.1 p.2.2.2) (Az C8 (Az C8 (Az C8 C8)))
theorem XF:PR NF true EA Oo BM (fun _=>True):=
  (next_pr.pair (next_pr.pair (next_pr.pair next_pr))).mapT _ (fun (x:Stay)=>(x.Agent_,x.Zone_,x.Since,x.Rank)) (fun _=>rfl) (fun _=>rfl) (fun _=>rfl) (fun b=>(Iff.rfl:BM b↔_)) (fun _ _=>trivial)
noncomputable def FS:WorldReader→Option (State×WorldReader):=Oa (fun p=>State.mk p.1 p.2.1 p.2.2) (Az C8 (Az (Kv (cR 8) Xm) (Kv (cR 96) EA)))
theorem state_pr:PR NF true FS Gu Qt SizeS:=
  (next_pr.pair (((NI 8 (by omega)).list TX).pair ((NI 96 (by omega)).list XF))).mapT _ (fun (s:State)=>(s.Tick,s.Agents,s.In)) (fun _=>rfl) (fun _=>rfl) (fun s=>by simp [Gu]) (fun b=>(Iff.rfl:Qt b↔_))
    (fun p h=>⟨by have:=h.2.1.1;dsimp only;omega,by have:=h.2.2.1;dsimp only;omega,fun a ha=>by have:=h.2.1.2 a ha;omega⟩)
theorem IY {L:List Int}{b:Bool}(h:L.length<8):C9 (NG L b)=some (0,NG L true):=by
  unfold C9
  rw [X5,l6 (show (L.length:Int)<8 by omega)];rfl
theorem LM {L:List Int}{b:Bool}(hB:Pi L)(h:8≤L.length):C9 (NG L b)=some (YJ (L.take 8),NG (L.drop 8) b):=by
  have hB8:=Sy hB 8
  have h8:=TW h
  unfold C9
  rw [X5,l7 (show ¬((L.length:Int)<8) by omega),bA,
   IU h8 hB8 (T5 (NG L b)) (fun i a x hi hx hb ha=>by
    unfold T5
    rw [l6 (show (a,(i:Int)).2<8 by dsimp only;omega),l9,IR hB,Q6 (show L[i]? =some x by rw [l3,bB hi]at hx;exact hx),lA]
    dsimp only
    rw [IT ha hb,X8 (n:=8) hi (by omega)]) (fun a=>by unfold T5;rfl),lA,Qa (i:=8) (j:=(L.length:Int)) (by omega),lA,
   show ((L.take (L.length:Int).toNat).drop (8:Int).toNat)=L.drop 8 by rw [bJ,List.take_length];rfl]
  rfl
theorem rnext_pr:PR NG true C9 (fun n=> [n]) R0 R0:=NH (z:=fun L=>L) (fun _ hB _=>⟨hB,bK _⟩) (fun _ _ h=>IY h) (fun _ _ hB h=>LM hB h)
noncomputable abbrev IZ (c:Nat)(r:Ref04Reader):=L4 r (c:Int)
theorem FT (c:Nat)(hc:c≤1099511627776):PR NG true (IZ c) (fun n=> [n]) (fun n=>0≤n∧n≤(c:Int)) (fun n=>0≤n∧n≤(c:Int)) where
  tot L b hB hL:=by
    obtain ⟨n,L1,b1,e1,B1,l1,s1,m1,q1,i1⟩:=rnext_pr.tot L b hB hL
    unfold IZ L4
    try dsimp only
    rw [e1,lA]
    by_cases h:0≤n∧n≤(c:Int)
    ·rw [l7 (show ¬(n<0) by omega),l7 (show ¬(n>(c:Int)) by omega)]
     exact ⟨n,L1,b1,rfl,B1,l1,s1,m1,h,fun hi hb=>⟨(i1 hi hb).1,h⟩⟩
    ·rw [show (decide (n<0)||decide (n>(c:Int)))=true by rw [bE,l8,l8];omega]
     exact ⟨0,L1,true,rfl,B1,l1, .inr rfl,fun _=>rfl,by omega,fun _=>nofun⟩
  fwd n L hn hB:=by
    unfold IZ L4
    rw [rnext_pr.fwd n L (by unfold R0;omega) hB,lA]
    try dsimp only
    rw [l7 (show ¬(n<0) by omega),l7 (show ¬(n>(c:Int)) by omega)];rfl
theorem Xn (c:Nat)(r:Ref04Reader)(v:Int×Ref04Reader)(h:IZ c r=some v):0≤v.1∧v.1≤(c:Int):=by
  unfold IZ L4 at h
  cases q:C9 r with
  |none=>rw [q]at h;cases h
  |some x=>
   rw [q,lA]at h
   by_cases hc:(decide (x.1<0)||decide (x.1>(c:Int)))=true
   ·rw [hc]at h
    cases h;dsimp only;omega
   ·rw [Bool.eq_false_iff.2 hc]at h
    cases h
    rw [bE,l8,l8]at hc
    dsimp only;omega
noncomputable def FU:Ref04Reader→Option (Bool×Ref04Reader):=Oa (fun n=>n==1) (IZ 1)
theorem rbool_pr:PR NG true FU (fun b=> [Wm b]) (fun _=>True) (fun _=>True):=
  (FT 1 (by omega)).mapB (fun n=>n==1) Wm (fun b=>by cases b<;>rfl) (fun n h=>by
    by_cases q:n=1
    ·subst q;rfl
    ·obtain rfl:n=0:=by omega
     rfl) (fun _=>rfl) (fun b=>by cases b<;>simp [Wm]) (fun _ _=>trivial)
noncomputable def FV:Ref04Reader→Option (List Int×Ref04Reader):=Kv (IZ 8) C9
theorem rroute_pr:PR NG true FV (fun l=>(l.length:Int)::l) (fun l=>l.length≤8∧∀n∈l,R0 n) (fun l=>l.length≤8∧∀n∈l,R0 n):=
  ((FT 8 (by omega)).list rnext_pr).weak (fun l=>by congr 1;simp) (fun _ h=>h) (fun _ h=>h) (fun _ h=>h)
noncomputable def Wn:Ref04Reader→Option (Agent×Ref04Reader):=Oa (fun p=>Agent.mk p.1 p.2.1 p.2.2.1 p.2.2.2.1 p.2.2.2.2.1 p.2.2.2.2.2.1 p.2.2.2.2.2.2)
  (Az FV (Az C9 (Az C9 (Az C9 (Az C9 (Az FU FU))))))
theorem PL:PR NG true Wn Fr FR (fun a=>a.Route.length≤8):=
  (rroute_pr.pair (rnext_pr.pair (rnext_pr.pair (rnext_pr.pair (rnext_pr.pair (rbool_pr.pair rbool_pr)))))).mapT _ (fun (a:Agent)=>(a.Route,a.S,a.V,a.Len,a.Begin,a.Obey,a.Gone)) (fun _=>rfl) (fun _=>rfl) (fun a=>by simp [Fr])
    (fun b=>⟨fun h=>⟨h.1,h.2.1,h.2.2.1,h.2.2.2.1,h.2.2.2.2,trivial,trivial⟩,fun h=>⟨h.1,h.2.1,h.2.2.1,h.2.2.2.1,h.2.2.2.2.1⟩⟩) (fun p h=>h.1.1)
noncomputable def BO:Ref04Reader→Option (Stay×Ref04Reader):=Oa (fun p=>Stay.mk p.1 p.2.1 p.2.2.1 p.2.2.2) (Az C9 (Az C9 (Az C9 C9)))
theorem TY:PR NG true BO Oo BM (fun _=>True):=
  (rnext_pr.pair (rnext_pr.pair (rnext_pr.pair rnext_pr))).mapT _ (fun (x:Stay)=>(x.Agent_,x.Zone_,x.Since,x.Rank)) (fun _=>rfl) (fun _=>rfl) (fun _=>rfl) (fun b=>(Iff.rfl:BM b↔_)) (fun _ _=>trivial)
noncomputable def Yx:Ref04Reader→Option (State×Ref04Reader):=Oa (fun p=>State.mk p.1 p.2.1 p.2.2) (Az C9 (Az (Kv (IZ 8) Wn) (Kv (IZ 96) BO)))
theorem rstate_pr:PR NG true Yx Gu Qt SizeS:=
  (rnext_pr.pair (((FT 8 (by omega)).list PL).pair ((FT 96 (by omega)).list TY))).mapT _ (fun (s:State)=>(s.Tick,s.Agents,s.In)) (fun _=>rfl) (fun _=>rfl) (fun s=>by simp [Gu]) (fun b=>(Iff.rfl:Qt b↔_))
    (fun p h=>⟨by have:=h.2.1.1;dsimp only;omega,by have:=h.2.2.1;dsimp only;omega,fun a ha=>by have:=h.2.1.2 a ha;omega⟩)
/-! ### The program's code reads just that -/
theorem TZ {γ:Type}(r:WorldReader)(K:WorldReader×List Int→Option γ):((cR 8 r).bind fun v=>(loop (V8 v) (0,v.2,[])).bind K)=(LL r).bind fun w=>K (w.2,w.1):=
  BK (f:=C8) (c:=cR 8) 8 (by omega) (fun i r out=>(i,r,out)) (fun r out=>(r,out)) V8 r K (fun v h=>BN 8 r v h) (fun w i r out=>rfl)
theorem UA:Z1=Xm:=funext fun r=>by
  unfold Z1 Xm NJ
  simp only [Oa,Az,Option.bind_assoc,lA]
  exact TZ r _
theorem XG:Ab=EA:=funext fun r=>by
  unfold Ab EA
  simp only [Oa,Az,Option.bind_assoc,lA]
theorem PM {γ:Type}(r:WorldReader)(t:Int)(K:WorldReader×State→Option γ):((cR 8 r).bind fun v=>(loop (Cl v) (0,v.2,State.mk t [] [])).bind K)=(Kv (cR 8) Xm r).bind fun w=>K (w.2,State.mk t w.1 []):=
  BK (f:=Xm) (c:=cR 8) 8 (by omega) (fun i r out=>(i,r,State.mk t out [])) (fun r out=>(r,State.mk t out [])) Cl r K (fun v h=>BN 8 r v h) (fun w i r out=>by
   unfold Cl;rw [UA])
theorem UB {γ:Type}(r:WorldReader)(t:Int)(l:List Agent)(K:WorldReader×State→Option γ):((cR 96 r).bind fun v=>(loop (Ck v) (0,v.2,State.mk t l [])).bind K)=(Kv (cR 96) EA r).bind fun w=>K (w.2,State.mk t l w.1):=
  BK (f:=EA) (c:=cR 96) 96 (by omega) (fun i r out=>(i,r,State.mk t l out)) (fun r out=>(r,State.mk t l out)) Ck r K (fun v h=>BN 96 r v h) (fun w i r out=>by
   unfold Ck;rw [XG])
theorem NK {γ:Type}(r:WorldReader)(K:WorldReader×State→Option γ):((C8 r).bind fun v2=>(L7 v2.2 8).bind fun v3=>(loop (Cl v3) (0,v3.2,(State.mk v2.1 [] []))).bind fun y1=>(L7 y1.1 96).bind fun v6=>(loop (Ck v6) (0,v6.2,(State.mk y1.2.Tick y1.2.Agents []))).bind K)
    =(FS r).bind fun w=>K (w.2,w.1):=by
  unfold FS
  simp only [Oa,Az,Option.bind_assoc,lA]
  refine NE fun v2=> ?_
  refine (PM v2.2 v2.1 _).trans (NE fun w1=> ?_)
  exact UB w1.2 v2.1 w1.1 K
/-! ### The document's code reads just that -/
theorem PN {γ:Type}(r:Ref04Reader)(K:Ref04Reader×List Int→Option γ):((IZ 8 r).bind fun v=>(loop Hg (v.1,v.2,[])).bind K)=(FV r).bind fun w=>K (w.2,w.1):=
  FQ (f:=C9) (c:=IZ 8) 8 (by omega) (fun i r out=>(i,r,out)) (fun r out=>(r,out)) Hg r K (fun v h=>Xn 8 r v h) (fun _ _ _=>rfl)
theorem LN {γ:Type}(r:Ref04Reader)(t:Int)(K:Ref04Reader×State→Option γ):((IZ 8 r).bind fun v=>(loop Cn (v.1,v.2,State.mk t [] [])).bind K)=(Kv (IZ 8) Wn r).bind fun w=>K (w.2,State.mk t w.1 []):=
  FQ (f:=Wn) (c:=IZ 8) 8 (by omega) (fun i r out=>(i,r,State.mk t out [])) (fun r out=>(r,State.mk t out [])) Cn r K (fun v h=>Xn 8 r v h) (fun i r out=>by
   unfold Cn Wn FU
   simp only [Oa,Az,Option.bind_assoc,lA]
   congr 1
   exact PN r _)
theorem PO {γ:Type}(r:Ref04Reader)(t:Int)(l:List Agent)(K:Ref04Reader×State→Option γ):((IZ 96 r).bind fun v=>(loop Cm (v.1,v.2,State.mk t l [])).bind K)=(Kv (IZ 96) BO r).bind fun w=>K (w.2,State.mk t l w.1):=
  FQ (f:=BO) (c:=IZ 96) 96 (by omega) (fun i r out=>(i,r,State.mk t l out)) (fun r out=>(r,State.mk t l out)) Cm r K (fun v h=>Xn 96 r v h) (fun i r out=>by
   unfold Cm BO
   simp only [Oa,Az,Option.bind_assoc,lA];try rfl)
theorem aQ {γ:Type}(r:Ref04Reader)(K:Ref04Reader×State→Option γ):((C9 r).bind fun v3=>(L4 v3.2 8).bind fun v4=>(loop (Cn) (v4.1,v4.2,(State.mk v3.1 [] []))).bind fun y1=>(L4 y1.1 96).bind fun v15=>(loop (Cm) (v15.1,v15.2,(State.mk y1.2.Tick y1.2.Agents []))).bind K)
    =(Yx r).bind fun w=>K (w.2,w.1):=by
  unfold Yx
  simp only [Oa,Az,Option.bind_assoc,lA]
  refine NE fun v2=> ?_
  refine (LN v2.2 v2.1 _).trans (NE fun w1=> ?_)
  exact PO w1.2 v2.1 w1.1 K
/-! ### A string -/
/-- What a string is the bytes of. -/
def Qu (L:List Int)(s:State):Prop:=L=BL s∧Qt s
theorem FW {L1:List Int}{s:State}(h:Co (Gu s)=L1)(hc:Qt s):FS (NF L1 false)=some (s,NF [] false):=by
  have:=state_pr.fwd s [] hc Tq
  rw [lN,h]at this
  exact this
theorem aR {L1:List Int}{s:State}(h:Co (Gu s)=L1)(hc:Qt s):Yx (NG L1 false)=some (s,NG [] false):=by
  have:=rstate_pr.fwd s [] hc Tq
  rw [lN,h]at this
  exact this
theorem JA {L:List Int}{s s':State}(h:Qu L s)(h':Qu L s'):s=s':=by
  have e:Co (Gu s)=Co (Gu s'):=List.append_cancel_left (h.1.symm.trans h'.1)
  have h1:=FW rfl h.2
  rw [e,FW rfl h'.2]at h1
  exact (congrArg Prod.fst (lC h1)).symm
theorem PP:ByteArray.empty=K9 []:=rfl
theorem NL {L:List Int}(hB:Pi L):((K9 L).toList==ByteArray.empty.toList)=(L== []):=by rw [PP,toList_eq hB Tq]
theorem aS {L:List Int}(hB:Pi L)(hl:L.length≤1000000):Cc (K9 L) (ByteArray.mk #[107,98,119,49])=some (if L.take 4=mark4 then (K9 (L.drop 4),true)else (K9 L,false)):=by
  have hm:=IX
  have e0:ByteArray.mk #[107,98,119,49]=K9 mark4:=rfl
  have hp:P9 (K9 L) (K9 mark4)=some (decide (L.take 4=mark4)):=by
    unfold P9
    rw [X5,X5]
    by_cases h4:4≤L.length
    ·rw [show decide ((L.length:Int)≥(mark4.length:Int))=true by rw [l8];simp [mark4];omega,l9,Qa (i:=0) (j:=(mark4.length:Int)) (by simp [mark4];omega),lA,Bool.true_and,
     show ((L.take ((mark4.length:Nat):Int).toNat).drop (0:Int).toNat)=L.take 4 from rfl,toList_eq (Sy hB 4) hm]
     congr 1
     rw [Bool.eq_iff_iff,bF,l8]
    ·rw [show decide ((L.length:Int)≥(mark4.length:Int))=false by rw [bG];simp [mark4];omega,bA,lA,Bool.false_and]
     congr 1
     symm
     rw [bG]
     intro h
     have:=congrArg List.length h
     rw [lT]at this
     simp [mark4]at this
     omega
  unfold Cc T3
  rw [e0,hp,lA]
  by_cases h:L.take 4=mark4
  ·have h4:4≤L.length:=by
     have:=congrArg List.length h
     rw [lT]at this
     simp [mark4]at this
     omega
   rw [l6 h,bB h,Bool.not_true,bA,X5,X5,Qa (by simp [mark4];omega),lA,lA,
    show ((L.take ((L.length:Nat):Int).toNat).drop ((mark4.length:Nat):Int).toNat)=L.drop 4 by rw [bJ,bJ,List.take_length];rfl]
  ·rw [l7 h,bC h];rfl
theorem Je {L:List Int}{s:State}(h:Qu L s):L.take 4=mark4∧L.drop 4=Co (Gu s):=by
  rw [h.1];exact ⟨List.take_left' rfl,List.drop_left' rfl⟩
theorem BP {L:List Int}(h:L.take 4=mark4):L=mark4++L.drop 4:=by rw [← h,List.take_append_drop]
theorem UC {b':Bool}{L':List Int}(hg: ¬(b'=false∧L'= [])):(b'|| !(L'== []))=true:=by
  cases b'
  ·rw [Bool.false_or,Bool.not_eq_true',beq_eq_false_iff_ne];intro q;exact hg ⟨rfl,q⟩
  ·rfl
abbrev UD:State:=⟨0,[],[]⟩
theorem LO {L:List Int}(hB:Pi L)(hl:L.length≤100000): ∃r,Jw (K9 L)=some r∧((r=(UD,3)∧¬∃s,Qu L s)∨∃s,Qu L s∧SizeS s∧r=(s,0)):=by
  unfold Jw
  rw [aS hB (by omega),lA]
  by_cases h:L.take 4=mark4
  ·rw [bB h]
   dsimp only
   obtain ⟨s,L',b',e,B',l1,s1,m1,Q,inv⟩:=state_pr.tot (L.drop 4) false (BI hB 4) (by rw [lU];omega)
   rw [NK,Bool.not_true,e,lA]
   dsimp only
   rw [NL B']
   by_cases hg:b'=false∧L'= []
   ·obtain ⟨rfl,rfl⟩:=hg
    obtain ⟨hi,ho⟩:=inv rfl rfl
    rw [lN]at hi
    rw [show (false|| !(([]:List Int)== []))=false from rfl,bA]
    exact ⟨_,rfl, .inr ⟨s,⟨by rw [BP h,hi];rfl,ho⟩,Q,rfl⟩⟩
   ·rw [UC hg]
    refine ⟨_,rfl, .inl ⟨rfl,fun ⟨s',h'⟩=> ?_⟩⟩
    have:=FW (Je h').2.symm h'.2
    rw [e]at this
    have h2:=congrArg Prod.snd (lC this)
    exact hg ⟨congrArg WorldReader.bad h2,Vd B' Tq (congrArg WorldReader.s h2)⟩
  ·rw [bC h]
   dsimp only
   obtain ⟨s,L',b',e,B',l1,s1,m1,Q,inv⟩:=state_pr.tot L true hB hl
   rw [NK,Bool.not_false,e,lA]
   dsimp only
   rw [m1 rfl]
   exact ⟨_,rfl, .inl ⟨rfl,fun ⟨s',h'⟩=>h (Je h').1⟩⟩
theorem PQ {L:List Int}(hB:Pi L)(hl:L.length≤100000): ∃r,Jx (K9 L)=some r∧((r=(UD,3)∧¬∃s,Qu L s)∨∃s,Qu L s∧SizeS s∧r=(s,0)):=by
  have e0:ByteArray.mk #[107,98,119,49]=K9 mark4:=rfl
  unfold Jx
  rw [X5,e0]
  by_cases h4:L.length<4
  ·rw [l6 (show (L.length:Int)<4 by omega)]
   refine ⟨_,rfl, .inl ⟨rfl,fun ⟨m',h'⟩=> ?_⟩⟩
   have:=congrArg List.length (Je h').1
   rw [lT]at this
   simp [mark4]at this
   omega
  ·rw [l7 (show ¬((L.length:Int)<4) by omega),Bool.not_false,l9,Qa (i:=0) (j:=4) (by omega),lA,Bool.false_or,show ((L.take (4:Int).toNat).drop (0:Int).toNat)=L.take 4 from rfl,toList_eq (Sy hB 4) IX]
   by_cases h:L.take 4=mark4
   ·rw [show (L.take 4==mark4)=true by simpa using h,Bool.not_true,bA,Qa (i:=4) (j:=(L.length:Int)) (by omega),lA,
    show ((L.take ((L.length:Nat):Int).toNat).drop (4:Int).toNat)=L.drop 4 by rw [bJ,List.take_length];rfl]
    obtain ⟨s,L',b',e,B',l1,s1,m1,Q,inv⟩:=rstate_pr.tot (L.drop 4) false (BI hB 4) (by rw [lU];omega)
    rw [aQ,e,lA]
    dsimp only
    rw [NL B']
    by_cases hg:b'=false∧L'= []
    ·obtain ⟨rfl,rfl⟩:=hg
     obtain ⟨hi,ho⟩:=inv rfl rfl
     rw [lN]at hi
     rw [show (false|| !(([]:List Int)== []))=false from rfl,bA]
     exact ⟨_,rfl, .inr ⟨s,⟨by rw [BP h,hi];rfl,ho⟩,Q,rfl⟩⟩
    ·rw [UC hg]
     refine ⟨_,rfl, .inl ⟨rfl,fun ⟨s',h'⟩=> ?_⟩⟩
     have:=aR (Je h').2.symm h'.2
     rw [e]at this
     have h2:=congrArg Prod.snd (lC this)
     exact hg ⟨congrArg Ref04Reader.bad h2,Vd B' Tq (congrArg Ref04Reader.s h2)⟩
   ·rw [show (L.take 4==mark4)=false by simpa using h]
    exact ⟨_,rfl, .inl ⟨rfl,fun ⟨m',h'⟩=>h (Je h').1⟩⟩
theorem LP:SizeS UD:=⟨by simp,by simp,by simp⟩
/-- Both read the same. -/
theorem PS {b:ByteArray}(hl:b.size≤100000): ∃r,Jw b=some r∧Jx b=some r∧SizeS r.1:=by
  have hB:=LI b
  have hn:(Bc b).length≤100000:=by rw [Ur];exact hl
  obtain ⟨r,h1,h2⟩:=LO hB hn
  obtain ⟨r',h1',h2'⟩:=PQ hB hn
  rw [CN]at h1 h1'
  rcases h2 with ⟨rfl,n⟩|⟨m,h,B,rfl⟩
  ·rcases h2' with ⟨rfl,n'⟩|⟨m',h',_⟩
   ·exact ⟨_,h1,h1',LP⟩
   ·exact absurd ⟨m',h'⟩ n
  ·rcases h2' with ⟨rfl,n'⟩|⟨m',h',_,rfl⟩
   ·exact absurd ⟨m,h⟩ n'
   ·obtain rfl:=JA h h'
    exact ⟨_,h1,h1',B⟩
noncomputable def eqB {α:Type}(a b:α):Bool:= @decide (a=b) (Classical.propDecidable _)
theorem eqB_iff {α:Type}{a b:α}:eqB a b=true↔a=b:= @decide_eq_true_iff (a=b) (Classical.propDecidable _)
theorem BQ {α:Type}(a:α):eqB a a=true:=eqB_iff.2 rfl
theorem BR {α:Type}{a b:α}(h:a≠b):eqB a b=false:=by
  cases q:eqB a b
  ·rfl
  ·exact absurd (eqB_iff.1 q) h
theorem NM {α:Type}: ∀(l l':List α),(!((l.zip l').any fun q=> !eqB q.1 q.2)&& (l.length==l'.length))=eqB l l'
  | [],[]=>by rw [Bool.eq_iff_iff];simp [eqB_iff]
  | [],b::r=>by rw [Bool.eq_iff_iff];simp [eqB_iff]
  |a::r,[]=>by rw [Bool.eq_iff_iff];simp [eqB_iff]
  |a::r,b::r'=>by
   have ih:=Bool.eq_iff_iff.1 (NM r r')
   rw [eqB_iff]at ih
   rw [Bool.eq_iff_iff,eqB_iff,List.cons.injEq,← ih]
   simp [eqB_iff,and_assoc]
theorem XH {α β:Type}{l:List α}{l':List β}{i:Nat}{p:α×β}(h:(l.zip l')[i]? =some p):l[i]? =some p.1∧l'[i]? =some p.2:=List.getElem?_zip_eq_some.1 h
/-- Two lists of one length, element by element. -/
theorem Yy {α:Type}(l l':List α)(q:l.length=l'.length)(F:Int→Option (Stp Int (Sum Unit Bool)))(hF: ∀(i:Nat) a b,l[i]? =some a→l'[i]? =some b→F (i:Int)=some (cond (!eqB a b) (.out (.inr false)) (.go ((i+1:Nat):Int))))(h0:F (l.length:Int)=some (.out (.inl ()))):
    loop F 0=some (cond (eqB l l') (.inl ()) (.inr false)):=by
  rw [cL (l.zip l') (fun q=> !eqB q.1 q.2) false (fun i p h=>by
      obtain ⟨h1,h2⟩:=XH h
      rw [hF i p.1 p.2 h1 h2];cases eqB p.1 p.2<;>rfl) (by rw [List.length_zip,← q,Nat.min_self];exact h0)]
  rw [← NM l l',q,beq_self_eq_true,Bool.and_true]
  cases (l.zip l').any fun q=> !eqB q.1 q.2<;>rfl
theorem LQ {α:Type}(l l':List α)(F:Int→Option (Stp Int (Sum Unit Bool)))(hF: ∀(i:Nat) a b,l[i]? =some a→l'[i]? =some b→F (i:Int)=some (cond (!eqB a b) (.out (.inr false)) (.go ((i+1:Nat):Int))))(h0:F (l.length:Int)=some (.out (.inl ()))):
    cond ((l.length:Int) !=(l'.length:Int)) (some false) (thenS (loop F 0) (fun _=>some true) (fun r=>some r))=some (eqB l l'):=by
  by_cases q:l.length=l'.length
  ·rw [show ((l.length:Int) !=(l'.length:Int))=false by rw [q];simp,bA,Yy l l' q F hF h0]
   cases eqB l l'<;>rfl
  ·rw [show ((l.length:Int) !=(l'.length:Int))=true by rw [bne_iff_ne];omega,l9,BR (fun h=>q (by rw [h]))]
theorem YL (a b:Int):(a !=b)= !eqB a b:=by rw [Bool.eq_iff_iff];simp [← Bool.not_eq_true,eqB_iff]
theorem UE (a b:Stay):(a.Agent_==b.Agent_&& (a.Zone_==b.Zone_&& (a.Since==b.Since&& (a.Rank==b.Rank&&true))))=eqB a b:=by
  cases a;cases b;rw [Bool.eq_iff_iff,eqB_iff];simp
theorem NN (a b:Agent):(eqB a.Route b.Route&& ((((((a.S==b.S)&& (a.V==b.V))&& (a.Len==b.Len))&& (a.Begin==b.Begin))&& (a.Obey==b.Obey))&& (a.Gone==b.Gone)))=eqB a b:=by
  cases a;cases b;rw [Bool.eq_iff_iff,eqB_iff];simp [eqB_iff,and_assoc]
theorem NO (a b:State):(((a.Tick==b.Tick)&&eqB a.Agents b.Agents)&&eqB a.In b.In)=eqB a b:=by
  cases a;cases b;rw [Bool.eq_iff_iff,eqB_iff];simp [eqB_iff,and_assoc]
theorem cT {l l':List Int}(h:l.length≤1000000):Cd l l'=some (eqB l l'):=
  LQ l l' _ (fun i a b ha hb=>by
   unfold W0
   rw [Fp (V0 ha),l9,Q6 ha,Q6 hb,lA,lA,YL,X8 (V0 ha) (by omega)]
   cases eqB a b<;>rfl) (by unfold W0;rw [Ce];rfl)
theorem aT {l l':List Stay}(h:l.length≤1000000):Af l l'=some (eqB l l'):=
  LQ l l' _ (fun i a b ha hb=>by
   unfold T7
   rw [Fp (V0 ha),l9,Q6 ha,Q6 hb,lA,lA,UE,X8 (V0 ha) (by omega)]
   cases eqB a b<;>rfl) (by unfold T7;rw [Ce];rfl)
theorem FX {a b:Agent}(h:a.Route.length≤1000000):Ef a b=some (eqB a b):=by
  unfold Ef
  rw [cT h,lA,← NN a b]
  cases eqB a.Route b.Route<;>rfl
theorem XI {l l':List Agent}(h:l.length≤1000000)(hp: ∀x∈l,x.Route.length≤1000):K0 l l'=some (eqB l l'):=
  LQ l l' _ (fun i a b ha hb=>by
   unfold G1
   rw [Fp (V0 ha),l9,Q6 ha,Q6 hb,lA,lA,FX (by have:=hp a (lF ha);omega),lA,X8 (V0 ha) (by omega)]
   cases eqB a b<;>rfl) (by unfold G1;rw [Ce];rfl)
theorem NP {a b:State}(A:SizeS a):Jy a b=some (eqB a b):=by
  have:=A.agents
  unfold Jy
  rw [XI (by omega) A.routes,aT A.ins,← NO a b]
  cases a.Tick==b.Tick
  ·rfl
  ·cases eqB a.Agents b.Agents<;>rfl
theorem PT {v1 v2:Agent}(h:v1.Route.length≤1000)(G:Int):cond ((((((((v1.Route.length:Int) !=(v2.Route.length:Int))||(v1.S !=v2.S))||(v1.V !=v2.V))||(v1.Len !=v2.Len))||(v1.Begin !=v2.Begin))||(!(v1.Obey==v2.Obey)))||(!(v1.Gone==v2.Gone))) (some (.out (.inr false))) (thenS (loop (Er v1 v2) 0) (fun _=>some (.go G)) (fun r=>some (.out (.inr r))))=some (cond (!eqB v1 v2) (Stp.out (Sum.inr false:Sum Unit Bool)) (.go G)):=by
  by_cases c:((((((((v1.Route.length:Int) !=(v2.Route.length:Int))||(v1.S !=v2.S))||(v1.V !=v2.V))||(v1.Len !=v2.Len))||(v1.Begin !=v2.Begin))||(!(v1.Obey==v2.Obey)))||(!(v1.Gone==v2.Gone)))=true
  ·rw [c,l9,BR (fun h=>by subst h;simp at c)];rfl
  ·rw [Bool.eq_false_iff.2 c,bA]
   simp only [bE,bne_iff_ne,ne_eq,Bool.not_eq_true',not_or,Classical.not_not,beq_eq_false_iff_ne]at c
   obtain ⟨⟨⟨⟨⟨⟨c1,c2⟩,c3⟩,c4⟩,c5⟩,c6⟩,c7⟩:=c
   rw [Yy v1.Route v2.Route (by omega) _ (fun i x y hx hy=>by
    unfold Er
    rw [Fp (V0 hx),l9,Q6 hx,Q6 hy,lA,lA,YL,X8 (V0 hx) (by omega)]
    cases eqB x y<;>rfl) (by unfold Er;rw [Ce];rfl)]
   rw [← NN v1 v2,c2,c3,c4,c5,c6,c7]
   simp only [beq_self_eq_true,Bool.and_self,Bool.and_true]
   cases eqB v1.Route v2.Route<;>rfl
theorem BS {a b:State}(A:SizeS a):Hy a b=some (eqB a b):=by
  have hA:=A.agents
  have hI:=A.ins
  unfold Hy
  by_cases t:a.Tick=b.Tick
  case neg=>rw [show (a.Tick !=b.Tick)=true by simpa using t,BR (fun h=>t (by rw [h]))];rfl
  by_cases g:a.Agents.length=b.Agents.length
  case neg=>rw [show ((a.Agents.length:Int) !=(b.Agents.length:Int))=true by rw [bne_iff_ne];omega,BR (fun h=>g (by rw [h])),Bool.or_true];rfl
  by_cases n:a.In.length=b.In.length
  case neg=>rw [show ((a.In.length:Int) !=(b.In.length:Int))=true by rw [bne_iff_ne];omega,BR (fun h=>n (by rw [h])),Bool.or_true];rfl
  rw [show (a.Tick !=b.Tick)=false by simpa using t,show ((a.Agents.length:Int) !=(b.Agents.length:Int))=false by rw [g];simp,show ((a.In.length:Int) !=(b.In.length:Int))=false by rw [n];simp,Bool.or_self,Bool.or_self,bA,
   Yy a.Agents b.Agents g _ (fun i x y hx hy=>by
    unfold Hj
    rw [Fp (V0 hx),l9,Q6 hx,Q6 hy,lA,lA,X8 (V0 hx) (by omega)]
    exact PT (A.routes x (lF hx)) _) (by unfold Hj;rw [Ce];rfl),
   Yy a.In b.In n _ (fun i x y hx hy=>by
    unfold Hh
    rw [Fp (V0 hx),l9,Q6 hx,Q6 hy,lA,lA,UE,X8 (V0 hx) (by omega)]
    cases eqB x y<;>rfl) (by unfold Hh;rw [Ce];rfl),← NO a b,t,beq_self_eq_true,Bool.true_and]
  cases eqB a.Agents b.Agents
  ·rfl
  ·cases eqB a.In b.In<;>rfl
theorem Qv (s o:State)(b:ByteArray):Gi s o b=some true:=by
  obtain ⟨c,h1,h2⟩:=IO s
  obtain ⟨d,h3,h4⟩:=IO o
  unfold Gi
  rw [h1,h3,lA,TH]
  cases c
  ·rfl
  ·cases d
   ·rfl
   ·have S:=(h2 rfl).size
    by_cases hs:3000<b.size
    ·rw [show decide ((b.size:Int)>3000)=true by rw [l8];omega];rfl
    ·obtain ⟨r,e1,e2,R⟩:=PS (b:=b) (by omega)
     rw [show decide ((b.size:Int)>3000)=false by rw [bG];omega]
     simp only [Bool.not_true,Bool.not_false,l9,bA,Bool.or_false,lA]
     rw [e1,e2,lA,lA,BS R,BQ,PG S,PJ S,NP S,BS S,TL S,WT S]
     simp only [beq_self_eq_true,l9,lA,Bool.true_and]
     rw [NP S,BQ,lA,l9,lA,l9,BS S,BQ]
     rfl
end Go.Abs.World
