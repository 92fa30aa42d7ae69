/-
  Plain facts on the functions: what they compute, and that the law holds of it.
-/
import Derived.Test.YtgjdiioennhoeaaGreatFns5
set_option maxRecDepth 100000
set_option synthInstance.maxHeartbeats 0
set_option synthInstance.maxSize 100000
set_option linter.unusedVariables false
namespace Go.Abs.World
open Go Go.Abs
noncomputable def Qx (p1:State)(x1:(Int×State)):Option (Stp (Int×State) State):=
  cond (decide (x1.1< (p1.Agents.length:Int))) ((C3 p1.Agents x1.1).bind fun v2=>(Ah ([]:List Int) v2.Route).bind fun v3=>(Ah x1.2.Agents [(Agent.mk v3 v2.S v2.V v2.Len v2.Begin v2.Obey v2.Gone)]).bind fun v4=>some (.go ((D4 (x1.1+1)),(State.mk x1.2.Tick v4 x1.2.In)))) (some (.out x1.2))
noncomputable def MU [Lp](p1:State):Option State:=
  (Ah ([]:List Stay) p1.In).bind fun v1=>(loop (Qx p1) (0,(State.mk p1.Tick [] v1))).bind fun y1=>some y1
noncomputable def BF (p3:Int)(v1:(List Int))(x1:(Int×Int)):Option (Stp (Int×Int) Int):=
  cond (decide (x1.2< (v1.length:Int))) ((C3 v1 x1.2).bind fun v3=>cond (decide (v3≤p3)) (some (.go (x1.2,(D4 (x1.2+1))))) (some (.go (x1.1,(D4 (x1.2+1)))))) (some (.out x1.1))
noncomputable def BG [Lp](p1:Map)(p2:(List Int))(p3:Int):Option (Int×Int×Bool):=
  (Fx p1 p2).bind fun v1=>((cond (!((decide (p3<0))||((v1.length:Int)==0))) (V8 p1 p2) (some default))).bind fun v2=>cond (((decide (p3<0))||((v1.length:Int)==0))||(decide (p3>v2))) (some (0,0,false)) ((loop (BF p3 v1) (0,0)).bind fun y1=>(C3 p2 y1).bind fun v4=>(C3 v1 y1).bind fun v5=>some (v4,(D4 (p3 - v5)),true))
noncomputable def MV [Lp](p1:Map)(p2:(List Int))(p3:Int):Option Spot:=
  (V8 p1 p2).bind fun v1=>(BG p1 p2 (Li true 0 (Li false p3 v1))).bind fun v2=>(C3 p1.Lanes v2.1).bind fun v3=>(Um v3.Curve_ v2.2.1).bind fun v4=>some v4
instance (a)(b)(c)(d):Le (@U6 V9 a b c d) (U6 a b c d):=by unfold U6;infer_instance
instance:Le (@Tg V9) (Tg):=by unfold Tg;infer_instance
instance (a):Le (@Nn V9 a) (Nn a):=by unfold Nn;infer_instance
instance (a):Le (@Cw V9 a) (Cw a):=by unfold Cw;infer_instance
instance curve_root_le (a):Le (@Gf V9 a) (Gf a):=by unfold Gf;infer_instance
instance (a)(b):Le (@Y8 V9 a b) (Y8 a b):=by unfold Y8;infer_instance
instance (a):Le (@Dq V9 a) (Dq a):=by unfold Dq;infer_instance
instance (a)(b)(c):Le (@Bv V9 a b c) (Bv a b c):=by unfold Bv;infer_instance
instance (a)(b):Le (@R0 V9 a b) (R0 a b):=by unfold R0;infer_instance
instance (a):Le (@V2 V9 a) (V2 a):=by unfold V2;infer_instance
instance (a)(b):Le (@P6 V9 a b) (P6 a b):=by unfold P6;infer_instance
instance (a):Le (@U5 V9 a) (U5 a):=by unfold U5;infer_instance
instance (a):Le (@G7 V9 a) (G7 a):=by unfold G7;infer_instance
instance (a):Le (@F3 V9 a) (F3 a):=by unfold F3;infer_instance
instance (a)(b):Le (@T5 V9 a b) (T5 a b):=by unfold T5;infer_instance
instance (a)(b)(c):Le (@F1 V9 a b c) (F1 a b c):=by unfold F1;infer_instance
instance (a)(b):Le (@G5 V9 a b) (G5 a b):=by unfold G5;infer_instance
instance (a)(b):Le (@F2 V9 a b) (F2 a b):=by unfold F2;infer_instance
instance (a)(b):Le (@O8 V9 a b) (O8 a b):=by unfold O8;infer_instance
instance (a):Le (@T3 V9 a) (T3 a):=by unfold T3;infer_instance
instance piecesGo_le (pts:List Spot): ∀(n i:Nat) (s:Int),Le (@Je V9 pts n i s) (Je pts n i s)
  |0,i,s=>Le.refl _
  |n+1,i,s=>by
   unfold Je
   have:=fun i s=>piecesGo_le pts n i s
   infer_instance -- curve_root_le
instance (a):Le (@Qr V9 a) (Qr a):=by unfold Qr;infer_instance
instance (a):Le (@Fm V9 a) (Fm a):=by unfold Fm;infer_instance
instance curve_Length_le (a):Le (@Dk V9 a) (Dk a):=by unfold Dk;infer_instance
instance (a)(b):Le (@Cz V9 a b) (Cz a b):=by unfold Cz;infer_instance
instance (a)(b)(c):Le (@R3 V9 a b c) (R3 a b c):=by unfold R3;infer_instance
instance (a)(b):Le (@R4 V9 a b) (R4 a b):=by unfold R4;infer_instance
instance (a):Le (@V3 V9 a) (V3 a):=by unfold V3;infer_instance
instance (a)(b):Le (@R5 V9 a b) (R5 a b):=by unfold R5;infer_instance
instance (a):Le (@V4 V9 a) (V4 a):=by unfold V4;infer_instance
instance (a)(b):Le (@T6 V9 a b) (T6 a b):=by unfold T6;infer_instance
instance (a)(b):Le (@O6 V9 a b) (O6 a b):=by unfold O6;infer_instance
instance roads_Check_le (a):Le (@Cc V9 a) (Cc a):=by unfold Cc;infer_instance
instance (a)(b):Le (@U1 V9 a b) (U1 a b):=by unfold U1;infer_instance
instance (a)(b):Le (@N2 V9 a b) (N2 a b):=by unfold N2;infer_instance
instance (a)(b)(c):Le (@Av V9 a b c) (Av a b c):=by unfold Av;infer_instance
instance (a)(b):Le (@Fp V9 a b) (Fp a b):=by unfold Fp;infer_instance
instance (a)(b)(c):Le (@Q4 V9 a b c) (Q4 a b c):=by unfold Q4;infer_instance
instance (a)(b):Le (@X4 V9 a b) (X4 a b):=by unfold X4;infer_instance
instance (a)(b)(c):Le (@X0 V9 a b c) (X0 a b c):=by unfold X0;infer_instance
instance (a)(b):Le (@Z2 V9 a b) (Z2 a b):=by unfold Z2;infer_instance
instance (a)(b):Le (@T8 V9 a b) (T8 a b):=by unfold T8;infer_instance
instance (a)(b):Le (@Bx V9 a b) (Bx a b):=by unfold Bx;infer_instance
instance (a)(b):Le (@Io V9 a b) (Io a b):=by unfold Io;infer_instance
instance (a)(b):Le (@Ip V9 a b) (Ip a b):=by unfold Ip;infer_instance
instance (a)(b)(c):Le (@Z9 V9 a b c) (Z9 a b c):=by unfold Z9;infer_instance
instance (a):Le (@Db V9 a) (Db a):=by unfold Db;infer_instance
instance (a)(b):Le (@Dr V9 a b) (Dr a b):=by unfold Dr;infer_instance
instance (a)(b):Le (@J8 V9 a b) (J8 a b):=by unfold J8;infer_instance
instance (a)(b):Le (@F8 V9 a b) (F8 a b):=by unfold F8;infer_instance
instance (a)(b)(c):Le (@Aj V9 a b c) (Aj a b c):=by unfold Aj;infer_instance
instance (a)(b)(c):Le (@Ak V9 a b c) (Ak a b c):=by unfold Ak;infer_instance
instance (a)(b):Le (@Cd V9 a b) (Cd a b):=by unfold Cd;infer_instance
instance (a):Le (@L8 V9 a) (L8 a):=by unfold L8;infer_instance
instance (a):Le (@K8 V9 a) (K8 a):=by unfold K8;infer_instance
instance (a)(b):Le (@Ce V9 a b) (Ce a b):=by unfold Ce;infer_instance
instance (a)(b):Le (@D3 V9 a b) (D3 a b):=by unfold D3;infer_instance
instance (a)(b)(c):Le (@E0 V9 a b c) (E0 a b c):=by unfold E0;infer_instance
instance (a)(b)(c):Le (@D8 V9 a b c) (D8 a b c):=by unfold D8;infer_instance
instance (a)(b)(c):Le (@G6 V9 a b c) (G6 a b c):=by unfold G6;infer_instance
instance (a)(b):Le (@E4 V9 a b) (E4 a b):=by unfold E4;infer_instance
instance (a)(b):Le (@J6 V9 a b) (J6 a b):=by unfold J6;infer_instance
instance (a):Le (@F9 V9 a) (F9 a):=by unfold F9;infer_instance
instance (a)(b)(c):Le (@H9 V9 a b c) (H9 a b c):=by unfold H9;infer_instance
instance (a)(b):Le (@F0 V9 a b) (F0 a b):=by unfold F0;infer_instance
instance (a)(b):Le (@I0 V9 a b) (I0 a b):=by unfold I0;infer_instance
instance (a)(b):Le (@I3 V9 a b) (I3 a b):=by unfold I3;infer_instance
instance (a):Le (@J7 V9 a) (J7 a):=by unfold J7;infer_instance
instance:Le (@G0 V9) (G0):=by unfold G0;infer_instance
instance (a)(b)(c)(d)(e):Le (@U7 V9 a b c d e) (U7 a b c d e):=by unfold U7;infer_instance
instance (a)(b)(c):Le (@O4 V9 a b c) (O4 a b c):=by unfold O4;infer_instance
instance (a)(b):Le (@V7 V9 a b) (V7 a b):=by unfold V7;infer_instance
instance (a)(b)(c):Le (@I9 V9 a b c) (I9 a b c):=by unfold I9;infer_instance
instance (a)(b)(c):Le (@G1 V9 a b c) (G1 a b c):=by unfold G1;infer_instance
instance (a)(b)(c)(d):Le (@Dt V9 a b c d) (Dt a b c d):=by unfold Dt;infer_instance
instance (a)(b)(c):Le (@P7 V9 a b c) (P7 a b c):=by unfold P7;infer_instance
instance (a)(b)(c):Le (@H6 V9 a b c) (H6 a b c):=by unfold H6;infer_instance
instance (a)(b):Le (@F4 V9 a b) (F4 a b):=by unfold F4;infer_instance
instance (a)(b):Le (@K2 V9 a b) (K2 a b):=by unfold K2;infer_instance
instance (a)(b):Le (@Kr V9 a b) (Kr a b):=by unfold Kr;infer_instance
instance (a)(b)(c):Le (@Al V9 a b c) (Al a b c):=by unfold Al;infer_instance
instance (a)(b)(c)(d):Le (@H4 V9 a b c d) (H4 a b c d):=by unfold H4;infer_instance
instance (a)(b)(c):Le (@I5 V9 a b c) (I5 a b c):=by unfold I5;infer_instance
instance (a)(b)(c):Le (@Ia V9 a b c) (Ia a b c):=by unfold Ia;infer_instance
instance (a)(b)(c):Le (@Du V9 a b c) (Du a b c):=by unfold Du;infer_instance
instance (a)(b):Le (@Mp V9 a b) (Mp a b):=by unfold Mp;infer_instance
instance (a)(b)(c):Le (@U8 V9 a b c) (U8 a b c):=by unfold U8;infer_instance
instance (a)(b)(c):Le (@Fs V9 a b c) (Fs a b c):=by unfold Fs;infer_instance
instance (a)(b)(c)(d):Le (@Ib V9 a b c d) (Ib a b c d):=by unfold Ib;infer_instance
instance (a)(b):Le (@I6 V9 a b) (I6 a b):=by unfold I6;infer_instance
instance (a)(b)(c)(d):Le (@Is V9 a b c d) (Is a b c d):=by unfold Is;infer_instance
instance (a)(b)(c)(d):Le (@X5 V9 a b c d) (X5 a b c d):=by unfold X5;infer_instance
instance (a)(b):Le (@X6 V9 a b) (X6 a b):=by unfold X6;infer_instance
instance (a):Le (@Ar V9 a) (Ar a):=by unfold Ar;infer_instance
instance (a)(b):Le (@Am V9 a b) (Am a b):=by unfold Am;infer_instance
instance (a)(b)(c)(d):Le (@Bz V9 a b c d) (Bz a b c d):=by unfold Bz;infer_instance
instance (a)(b):Le (@Eh V9 a b) (Eh a b):=by unfold Eh;infer_instance
instance (a)(b):Le (@H7 V9 a b) (H7 a b):=by unfold H7;infer_instance
instance (a)(b):Le (@F7 V9 a b) (F7 a b):=by unfold F7;infer_instance
instance (a)(b):Le (@Z4 V9 a b) (Z4 a b):=by unfold Z4;infer_instance
instance (a)(b)(c):Le (@G2 V9 a b c) (G2 a b c):=by unfold G2;infer_instance
instance (a)(b):Le (@J0 V9 a b) (J0 a b):=by unfold J0;infer_instance
instance (a)(b):Le (@G3 V9 a b) (G3 a b):=by unfold G3;infer_instance
instance (a)(b)(c):Le (@Ci V9 a b c) (Ci a b c):=by unfold Ci;infer_instance
instance (a)(b)(c)(d):Le (@X8 V9 a b c d) (X8 a b c d):=by unfold X8;infer_instance
instance (a)(b)(c)(d):Le (@Ln V9 a b c d) (Ln a b c d):=by unfold Ln;infer_instance
instance (a)(b)(c)(d)(e):Le (@Lq V9 a b c d e) (Lq a b c d e):=by unfold Lq;infer_instance
instance (a)(b):Le (@Th V9 a b) (Th a b):=by unfold Th;infer_instance
instance (a)(b)(c):Le (@M3 V9 a b c) (M3 a b c):=by unfold M3;infer_instance
instance (a)(b)(c):Le (@N3 V9 a b c) (N3 a b c):=by unfold N3;infer_instance
instance (a)(b):Le (@O2 V9 a b) (O2 a b):=by unfold O2;infer_instance
instance (a)(b)(c)(d):Le (@P9 V9 a b c d) (P9 a b c d):=by unfold P9;infer_instance
instance (a):Le (@U3 V9 a) (U3 a):=by unfold U3;infer_instance
instance (a)(b)(c):Le (@M4 V9 a b c) (M4 a b c):=by unfold M4;infer_instance
instance (a)(b):Le (@N4 V9 a b) (N4 a b):=by unfold N4;infer_instance
instance (a):Le (@O3 V9 a) (O3 a):=by unfold O3;infer_instance
instance (a)(b)(c):Le (@Q0 V9 a b c) (Q0 a b c):=by unfold Q0;infer_instance
instance:Le (@U4 V9) (U4):=by unfold U4;infer_instance
instance (a)(b)(c)(d)(e):Le (@Lr V9 a b c d e) (Lr a b c d e):=by unfold Lr;infer_instance
instance (a)(b)(c)(d):Le (@Ls V9 a b c d) (Ls a b c d):=by unfold Ls;infer_instance
instance (a)(b)(c):Le (@Ti V9 a b c) (Ti a b c):=by unfold Ti;infer_instance
instance (a)(b)(c):Le (@Tj V9 a b c) (Tj a b c):=by unfold Tj;infer_instance
instance (a)(b)(c)(d)(e):Le (@J9 V9 a b c d e) (J9 a b c d e):=by unfold J9;infer_instance
instance (a)(b)(c)(d)(e):Le (@J3 V9 a b c d e) (J3 a b c d e):=by unfold J3;infer_instance
instance (a)(b)(c)(d)(e):Le (@Ny V9 a b c d e) (Ny a b c d e):=by unfold Ny;infer_instance
instance (a)(b)(c)(d)(e):Le (@Jt V9 a b c d e) (Jt a b c d e):=by unfold Jt;infer_instance
instance (a)(b)(c)(d):Le (@Px V9 a b c d) (Px a b c d):=by unfold Px;infer_instance
instance (a)(b)(c)(d):Le (@Py V9 a b c d) (Py a b c d):=by unfold Py;infer_instance
instance (a):Le (@Ju V9 a) (Ju a):=by unfold Ju;infer_instance
instance (a)(b)(c):Le (@X9 V9 a b c) (X9 a b c):=by unfold X9;infer_instance
instance (a)(b)(c):Le (@Z5 V9 a b c) (Z5 a b c):=by unfold Z5;infer_instance
instance (a)(b)(c)(d)(e)(f)(g)(h):Le (@Hb V9 a b c d e f g h) (Hb a b c d e f g h):=by unfold Hb;infer_instance
instance (a)(b)(c)(d)(e)(f)(g)(h):Le (@Ku V9 a b c d e f g h) (Ku a b c d e f g h):=by unfold Ku;infer_instance
instance (a)(b)(c)(d)(e)(f)(g)(h)(i):Le (@Hc V9 a b c d e f g h i) (Hc a b c d e f g h i):=by unfold Hc;infer_instance
instance (a)(b)(c)(d)(e)(f)(g)(h):Le (@Mq V9 a b c d e f g h) (Mq a b c d e f g h):=by unfold Mq;infer_instance
instance (a)(b)(c)(d)(e)(f)(g)(h):Le (@Jv V9 a b c d e f g h) (Jv a b c d e f g h):=by unfold Jv;infer_instance
instance (a)(b)(c)(d)(e)(f):Le (@Mr V9 a b c d e f) (Mr a b c d e f):=by unfold Mr;infer_instance
instance (a)(b)(c)(d)(e)(f)(g)(h):Le (@Jw V9 a b c d e f g h) (Jw a b c d e f g h):=by unfold Jw;infer_instance
instance (a)(b)(c)(d)(e)(f):Le (@Jx V9 a b c d e f) (Jx a b c d e f):=by unfold Jx;infer_instance
instance (a)(b)(c)(d)(e):Le (@Ms V9 a b c d e) (Ms a b c d e):=by unfold Ms;infer_instance
instance (a)(b)(c)(d):Le (@Jy V9 a b c d) (Jy a b c d):=by unfold Jy;infer_instance
instance (a)(b)(c)(d):Le (@Mt V9 a b c d) (Mt a b c d):=by unfold Mt;infer_instance
instance (a)(b)(c):Le (@Qa V9 a b c) (Qa a b c):=by unfold Qa;infer_instance
instance law04_awake_le:Le (@Ic V9) (Ic):=by unfold Ic;infer_instance
theorem Jm (n:Int): ∃y,Gf n=some (y,y*y==n)∧0≤y∧y≤67108864∧(∀m,0≤m→m<y→m*m<n)∧(y=67108864∨n≤y*y):=by
  have key:=UD (f:=Mo n) (fun x=>0≤x.1∧x.1≤x.2∧x.2≤67108864∧(∀m,0≤m→m<x.1→m*m<n)∧(x.2=67108864∨n≤x.2*x.2)) (fun x=>(x.2 - x.1).toNat)
    (fun y=>0≤y∧y≤67108864∧(∀m,0≤m→m<y→m*m<n)∧(y=67108864∨n≤y*y)) (by
      rintro ⟨lo,hi⟩ ⟨h1,h2,h3,h4,h5⟩
      dsimp only at h1 h2 h3 h4 h5
      unfold Mo
      dsimp only
      by_cases hlt:lo<hi
      ·have e1:D4 (lo+hi)=lo+hi:=E6 (by omega)
       have e2:D4 ((lo+hi).tdiv 2)=(lo+hi) / 2:=by rw [wN (by omega)];exact E6 (by omega)
       have hm:lo≤(lo+hi) / 2∧(lo+hi) / 2<hi:=by omega
       generalize hmid:(lo+hi) / 2=mid at*
       have hmm:mid*mid≤67108864*67108864:=ZR (by omega) (by omega)
       have hmm0:=Tf mid
       have e3:D4 (mid*mid)=mid*mid:=E6 (by omega)
       have e4:D4 (mid+1)=mid+1:=E6 (by omega)
       simp only [e1,e2,e3,e4,hlt,decide_true,bK]
       by_cases hc:mid*mid<n
       ·simp only [hc,decide_true,bK]
        refine ⟨_,rfl,⟨by omega,by omega,h3,fun m hm0 hm1=> ?_,h5⟩,by dsimp only;omega⟩
        rcases Int.lt_or_le m mid with q|q
        ·have:=Int.mul_le_mul (show m≤mid by omega) (show m≤mid by omega) hm0 (by omega);omega
        ·have:m=mid:=by dsimp only at hm1;omega
         subst this;exact hc
       ·simp only [hc,decide_false,bM]
        exact ⟨_,rfl,⟨h1,by dsimp only;omega,by dsimp only;omega,h4, .inr (by dsimp only;omega)⟩,by dsimp only;omega⟩
      ·simp only [hlt,decide_false,bM]
       obtain rfl:lo=hi:=by omega
       exact ⟨_,rfl,h1,h3,h4,h5⟩) (0,67108864) ⟨by decide,by decide,by decide,fun m h1 h2=>by dsimp only at h2;omega, .inl rfl⟩
  obtain ⟨y,hy,h1,h2,h3,h4⟩:=key
  refine ⟨y,?_,h1,h2,h3,h4⟩
  have hmm:y*y≤67108864*67108864:=ZR (by omega) (by omega)
  have hmm0:=Tf y
  unfold Gf
  rw [hy,lB,E6 (by omega)]
/-- The least number whose square is not less. -/
noncomputable def rt (n:Int):Int:=(Jm n).choose
theorem DF (n:Int):Gf n=some (rt n,rt n*rt n==n):=(Jm n).choose_spec.1
theorem HS (n:Int):0≤rt n:=(Jm n).choose_spec.2.1
theorem qP (n m:Int)(h1:0≤m)(h2:m<rt n):m*m<n:=(Jm n).choose_spec.2.2.2.1 m h1 h2
theorem qQ (n:Int):rt n=67108864∨n≤rt n*rt n:=(Jm n).choose_spec.2.2.2.2
theorem iU {l:Int}(h0:0≤l)(h1:l≤67108864):rt (l*l)=l:=by
  rcases Int.lt_trichotomy (rt (l*l)) l with q|q|q
  ·rcases qQ (l*l)with h|h
   ·omega
   ·have h2:=HS (l*l)
    have:=Int.mul_lt_mul' (show rt (l*l)≤l by omega) q h2 (by omega);omega
  ·exact q
  ·have:=qP (l*l) l h0 q;omega
theorem JY (n:Int)(h0:0≤n)(h1:n<18014398509481984): ∃r,Kv n=some r∧0≤r∧r<134217728∧r*r≤n∧n< (r+1)* (r+1):=by
  have key:=UD (f:=Mu n) (fun x=>0≤x.1∧x.1*x.1≤n∧((∃k:Nat,k≤26∧x.2=2^k∧x.1+2*2^k≤134217728∧n< (x.1+2*2^k)* (x.1+2*2^k))∨(x.2=0∧x.1<134217728∧n< (x.1+1)* (x.1+1)))) (fun x=>x.2.toNat)
    (fun r=>0≤r∧r<134217728∧r*r≤n∧n< (r+1)* (r+1)) (by
      rintro ⟨r,bit⟩ ⟨q1,q2,q3⟩
      dsimp only at q1 q2 q3
      unfold Mu
      dsimp only
      rcases q3 with ⟨k,hk,rfl,q4,q5⟩|⟨rfl,q4,q5⟩
      ·have hp:(0:Int)<2^k:=Int.pow_pos (by decide)
       generalize hb:(2:Int)^k=b at*
       have e1:D4 (r+b)=r+b:=E6 (by omega)
       have hmm:(r+b)* (r+b)≤134217728*134217728:=ZR (by omega) (by omega)
       have hmm0:=Tf (r+b)
       have e2:D4 ((r+b)* (r+b))=(r+b)* (r+b):=E6 (by omega)
       have e3:D4 (b.tdiv 2)=b / 2:=by rw [wN (by omega)];exact E6 (by omega)
       have hb0:b>0:=by omega
       simp only [e1,e2,e3,hb0,decide_true,bK]
       have hnext: ∀r',0≤r'→r'*r'≤n→r'+b≤134217728→n< (r'+b)* (r'+b)→(∃j:Nat,j≤26∧b / 2=2^j∧r'+2*2^j≤134217728∧n< (r'+2*2^j)* (r'+2*2^j))∨(b / 2=0∧r'<134217728∧n< (r'+1)* (r'+1)):=by
         intro r' a1 a2 a3 a4
         cases k with
         |zero=>
          have:b=1:=by rw [← hb];rfl
          subst this
          exact .inr ⟨by decide,by omega,a4⟩
         |succ j=>
          have hj:b=2*2^j:=by rw [← hb,Int.pow_succ];omega
          refine .inl ⟨j,by omega,by omega,by omega,by rw [← hj];exact a4⟩
       by_cases hc:(r+b)* (r+b)≤n
       ·simp only [hc,decide_true,bK]
        refine ⟨_,rfl,⟨by dsimp only;omega,hc,hnext (r+b) (by omega) hc (by omega) (by rw [show r+b+b=r+2*b by omega];exact q5)⟩,by dsimp only;omega⟩
       ·simp only [hc,decide_false,bM]
        exact ⟨_,rfl,⟨q1,q2,hnext r q1 q2 (by omega) (by omega)⟩,by dsimp only;omega⟩
      ·simp only [show ¬(0:Int)>0 by decide,decide_false,bM]
       exact ⟨_,rfl,q1,q4,q2,q5⟩) (0,67108864) ⟨by decide,by dsimp only;omega, .inl ⟨26,by decide,by decide,by decide,by dsimp only;omega⟩⟩
  obtain ⟨r,hr,a⟩:=key
  exact ⟨r,by unfold Kv;rw [hr];rfl,a⟩
theorem OX {n:Int}(h0:0≤n)(h1:n≤4503599627370496): ∃r,Kv n=some r∧0≤r∧r<134217728∧(r*r=n↔rt n*rt n=n)∧(r*r=n→r=rt n):=by
  obtain ⟨r,hr,a1,a2,a3,a4⟩:=JY n h0 (by omega)
  have hr26:r≤67108864:=by
    rcases Int.lt_or_le r 67108865 with q|q
    ·omega
    ·have:=Int.mul_le_mul q q (by decide) (by omega);omega
  refine ⟨r,hr,a1,a2,⟨fun h=> ?_,fun h=> ?_⟩,fun h=> ?_⟩
  ·rw [← h,iU a1 hr26]
  ·rcases Int.lt_trichotomy r (rt n)with q|q|q
   ·have:=Int.mul_le_mul (show r+1≤rt n by omega) (show r+1≤rt n by omega) (by omega) (HS n);omega
   ·rw [q];exact h
   ·have h2:=HS n
    have:=Int.mul_lt_mul' (show rt n≤r by omega) q h2 (by omega);omega
  ·rw [← h,iU a1 hr26]
def Kk (p:Spot):Bool:=decide (-16777216≤p.X)&&decide (p.X≤16777216)&&decide (-16777216≤p.Y)&&decide (p.Y≤16777216)
theorem okS_iff {p:Spot}:Kk p=true↔ -16777216≤p.X∧p.X≤16777216∧ -16777216≤p.Y∧p.Y≤16777216:=by simp [Kk,and_assoc]
theorem cW (p:Spot):((decide ((Li false p.X p.Y)< (-16777216)))||(decide ((Li true p.X p.Y)>16777216)))= !Kk p:=by
  rw [Il,Nb]
  cases h:Kk p with
  |true=>have:=okS_iff.1 h;simp;omega
  |false=>
   have: ¬(-16777216≤p.X∧p.X≤16777216∧ -16777216≤p.Y∧p.Y≤16777216):=fun q=>by rw [okS_iff.2 q]at h;cases h
   simp;omega
theorem OY (l:List Spot)(hl:l.length≤1000000): ∀(r:List Spot) (i:Nat),l.drop i=r→loop (Gd l) (i:Int)=some (if r.all Kk then .inl ()else .inr false):=by
  intro r
  induction r with
  |nil=>
   intro i hi
   have:=N0 hi
   refine D2 ?_
   unfold Gd
   simp only [show ¬(i:Int)<l.length by omega,decide_false,bM,List.all_nil,if_true]
  |cons p r ih=>
   intro i hi
   have hlt:=L3 hi
   have hstep:Gd l (i:Int)=if Kk p then some (.go ((i+1:Nat):Int))else some (.out (.inr false)):=by
     unfold Gd
     simp only [show (i:Int)<l.length by omega,decide_true,bK,Y2 hi,lB,cW]
     cases h:Kk p with
     |true=>simp only [bU,bM,if_true];rw [E6 (by omega)];rfl
     |false=>simp
   cases h:Kk p with
   |true=>
    rw [h,bN rfl]at hstep
    rw [H8 hstep,ih (i+1) (I4 hi)]
    simp [h]
   |false=>
    rw [h]at hstep
    rw [D2 hstep]
    simp [h]
theorem My (l:List Spot)(hl:l.length≤1000000):Cw l=some (l.all Kk):=by
  unfold Cw
  have:=OY l hl l 0 (by simp)
  rw [show ((0:Nat):Int)=0 from rfl]at this
  rw [this]
  cases l.all Kk<;>rfl
theorem MW (p:Spot):Rm p=some (Kk p):=by
  unfold Rm Kk;rfl
def N9 (p q:Spot):CurveVector:=⟨q.X - p.X,q.Y - p.Y⟩
def M8 (v w:CurveVector):Int:=v.x*w.x+v.y*w.y
/-- A vector between valid spots. -/
def WE (v:CurveVector):Prop:= -33554432≤v.x∧v.x≤33554432∧ -33554432≤v.y∧v.y≤33554432
theorem Qy {p q:Spot}(hp:Kk p=true)(hq:Kk q=true):WE (N9 p q):=by
  have:=okS_iff.1 hp;have:=okS_iff.1 hq
  unfold WE N9;dsimp only;omega
theorem Mz {p q:Spot}(hp:Kk p=true)(hq:Kk q=true):Im p q=some (N9 p q):=by
  have:=okS_iff.1 hp;have:=okS_iff.1 hq
  unfold Im N9
  rw [E6 (by omega),E6 (by omega)]
theorem XZ {v w:CurveVector}(hv:WE v)(hw:WE w): -2251799813685248≤M8 v w∧M8 v w≤2251799813685248∧(-1125899906842624≤v.x*w.x∧v.x*w.x≤1125899906842624)∧ -1125899906842624≤v.y*w.y∧v.y*w.y≤1125899906842624:=by
  obtain ⟨a1,a2,a3,a4⟩:=hv
  obtain ⟨b1,b2,b3,b4⟩:=hw
  have h1:=DX ⟨a1,a2⟩ ⟨b1,b2⟩
  have h2:=DX ⟨a3,a4⟩ ⟨b3,b4⟩
  unfold M8
  omega
theorem Sz {v w:CurveVector}(hv:WE v)(hw:WE w):Z7 v w=some (M8 v w):=by
  have h:=XZ hv hw
  unfold Z7
  rw [E6 (n:=v.x*w.x) (by omega),E6 (n:=v.y*w.y) (by omega),E6 (by unfold M8 at h;omega)]
  rfl
theorem YA (v:CurveVector):0≤M8 v v:=by have:=Tf v.x;have:=Tf v.y;unfold M8;omega
def vs (v:CurveVector):Spot:=⟨v.x,v.y⟩
theorem Pf {p q:Spot}(hp:Kk p=true)(hq:Kk q=true):Ie q p=some (vs (N9 p q)):=by
  have:=okS_iff.1 hp;have:=okS_iff.1 hq
  unfold Ie N9 vs
  rw [E6 (by omega),E6 (by omega)]
theorem Xx {v w:CurveVector}(hv:WE v)(hw:WE w):Nz (vs v) (vs w)=some (M8 v w):=by
  have h:=XZ hv hw
  unfold Nz vs
  dsimp only
  rw [E6 (n:=v.x*w.x) (by omega),E6 (n:=v.y*w.y) (by omega),E6 (by unfold M8 at h;omega)]
  rfl
/-- The error of a chain of points, from a piece on; the piece ahead of it. -/
noncomputable def UW:Option CurveVector→List Spot→Int
  |last,p::q::r=>
   if rt (M8 (N9 p q) (N9 p q))*rt (M8 (N9 p q) (N9 p q))≠M8 (N9 p q) (N9 p q)then 3
   else if rt (M8 (N9 p q) (N9 p q))<1000∨rt (M8 (N9 p q) (N9 p q))>1048576 then 2
   else match last with
     |some u=>if M8 u (N9 p q)≤0 then 12 else UW (some (N9 p q)) (q::r)
     |none=>UW (some (N9 p q)) (q::r)
  |_,_=>0
theorem GG (last:Option CurveVector)(p q:Spot)(r:List Spot):UW last (p::q::r)=
    if rt (M8 (N9 p q) (N9 p q))*rt (M8 (N9 p q) (N9 p q))≠M8 (N9 p q) (N9 p q)then 3
    else if rt (M8 (N9 p q) (N9 p q))<1000∨rt (M8 (N9 p q) (N9 p q))>1048576 then 2
    else match last with
      |some u=>if M8 u (N9 p q)≤0 then 12 else UW (some (N9 p q)) (q::r)
      |none=>UW (some (N9 p q)) (q::r):=by
  conv=>lhs;unfold UW
noncomputable def Be (l:List Spot):Int:=if l.length<2 then 6 else if l.length>16 then 5 else if l.all Kk then UW none l else 2
theorem MX (c:Curve)(hl:c.Pts.length≤1000000)(hok:c.Pts.all Kk=true): ∀(r:List Spot) (p:Spot) (i:Nat) (last:CurveVector),c.Pts.drop i=p::r→WE last→
    loop (Y8 c) ((i:Int),last)=some (if UW (if i=0 then none else some last) (p::r)=0 then .inl ()else .inr (UW (if i=0 then none else some last) (p::r))):=by
  intro r
  induction r with
  |nil=>
   intro p i last hi hlast
   have hlt:=L3 hi
   have:=N0 (I4 hi)
   refine D2 ?_
   unfold Y8
   dsimp only
   rw [E6 (n:=(c.Pts.length:Int) - 1) (by omega)]
   simp only [show ¬(i:Int)< (c.Pts.length:Int) - 1 by omega,decide_false,bM,UW,if_true]
  |cons q r ih=>
   intro p i last hi hlast
   have hlt:=L3 hi
   have hi1:=I4 hi
   have hlt1:=L3 hi1
   have hp:Kk p=true:=l6.1 hok p (List.mem_of_mem_drop (i:=i) (by rw [hi];simp))
   have hq:Kk q=true:=l6.1 hok q (List.mem_of_mem_drop (i:=i) (by rw [hi];simp))
   have hv:=Qy hp hq
   have hg1:C3 c.Pts ((i:Int)+1)=some q:=by have:=Y2 hi1;simpa using this
   have hstep:Y8 c ((i:Int),last)=
    if rt (M8 (N9 p q) (N9 p q))*rt (M8 (N9 p q) (N9 p q))≠M8 (N9 p q) (N9 p q)then some (.out (.inr 3))
    else if rt (M8 (N9 p q) (N9 p q))<1000∨rt (M8 (N9 p q) (N9 p q))>1048576 then some (.out (.inr 2))
    else if i≠0∧M8 last (N9 p q)≤0 then some (.out (.inr 12))else some (.go (((i+1:Nat):Int),N9 p q)):=by
     unfold Y8
     dsimp only
     rw [E6 (n:=(c.Pts.length:Int) - 1) (by omega),E6 (n:=(i:Int)+1) (by omega)]
     simp only [show (i:Int)< (c.Pts.length:Int) - 1 by omega,decide_true,bK,Y2 hi,hg1,lB,Mz hp hq,Sz hv hv,DF]
     by_cases h1:rt (M8 (N9 p q) (N9 p q))*rt (M8 (N9 p q) (N9 p q))=M8 (N9 p q) (N9 p q)
     ·simp only [h1,beq_self_eq_true,bU,bM,ne_eq,not_true_eq_false,if_false]
      by_cases h2:rt (M8 (N9 p q) (N9 p q))<1000∨rt (M8 (N9 p q) (N9 p q))>1048576
      ·rw [bN h2]
       have:(decide (rt (M8 (N9 p q) (N9 p q))<1000)||decide (rt (M8 (N9 p q) (N9 p q))>1048576))=true:=by simpa using h2
       rw [this];rfl
      ·rw [bO h2]
       have:(decide (rt (M8 (N9 p q) (N9 p q))<1000)||decide (rt (M8 (N9 p q) (N9 p q))>1048576))=false:=by simpa using h2
       rw [this]
       simp only [bM]
       by_cases h3:i=0
       ·subst h3
        simp only [Int.natCast_zero,gt_iff_lt,Int.lt_irrefl,decide_false,bM,bR,lB,not_true_eq_false,false_and,if_false]
        rfl
       ·have h4:(i:Int)>0:=by omega
        simp only [h4,decide_true,bK,Sz hlast hv,lB,bP,h3,not_false_eq_true,true_and]
        by_cases h5:M8 last (N9 p q)≤0<;>simp [h5]
     ·have:(rt (M8 (N9 p q) (N9 p q))*rt (M8 (N9 p q) (N9 p q))==M8 (N9 p q) (N9 p q))=false:=by simpa using h1
      simp only [this,bV,bK,ne_eq,h1,not_false_eq_true,if_true]
   rw [GG]
   by_cases h1:rt (M8 (N9 p q) (N9 p q))*rt (M8 (N9 p q) (N9 p q))≠M8 (N9 p q) (N9 p q)
   ·rw [bN h1]at hstep
    rw [D2 hstep,bN h1];rfl
   ·rw [bO h1]at hstep ⊢
    by_cases h2:rt (M8 (N9 p q) (N9 p q))<1000∨rt (M8 (N9 p q) (N9 p q))>1048576
    ·rw [bN h2]at hstep
     rw [D2 hstep,bN h2];rfl
    ·rw [bO h2]at hstep ⊢
     by_cases h3:i=0
     ·subst h3
      rw [bO (by simp)]at hstep
      rw [H8 hstep,ih q (0+1) (N9 p q) hi1 hv]
      simp
     ·by_cases h5:M8 last (N9 p q)≤0
      ·rw [bN ⟨h3,h5⟩]at hstep
       rw [D2 hstep]
       simp [h3,h5]
      ·rw [bO (fun h=>h5 h.2)]at hstep
       rw [H8 hstep,ih q (i+1) (N9 p q) hi1 hv]
       simp [h3,h5]
theorem Pg (c:Curve)(hl:c.Pts.length≤1000000):Dq c=some (Be c.Pts):=by
  unfold Dq Be
  by_cases h1:c.Pts.length<2
  ·rw [bN h1,show decide ((c.Pts.length:Int)<2)=true by simp;omega];rfl
  ·rw [bO h1,show decide ((c.Pts.length:Int)<2)=false by simp;omega]
   simp only [bM]
   by_cases h2:c.Pts.length>16
   ·rw [bN h2,show decide ((c.Pts.length:Int)>16)=true by simp;omega];rfl
   ·rw [bO h2,show decide ((c.Pts.length:Int)>16)=false by simp;omega]
    simp only [bM,My c.Pts hl,lB]
    cases h3:c.Pts.all Kk with
    |false=>rfl
    |true=>
     simp only [bU,bM,if_true]
     cases hp:c.Pts with
     |nil=>rw [hp]at h1;simp at h1
     |cons p r=>
      have:=MX c hl h3 r p 0 ⟨0,0⟩ (by rw [hp];rfl) ⟨by decide,by decide,by decide,by decide⟩
      rw [bN rfl,show ((0:Nat):Int)=0 from rfl]at this
      rw [this]
      by_cases h4:UW none (p::r)=0
      ·rw [bN h4,h4];rfl
      ·rw [bO h4];rfl
theorem cX (v w:CurveVector):M8 v w=M8 w v:=by unfold M8;rw [Int.mul_comm v.x,Int.mul_comm v.y]
theorem JZ (c:Curve)(hl:c.Pts.length≤1000000): ∀(r:List Spot) (i:Nat),c.Pts.drop i=r→loop (Ek c) (i:Int)=some (if r.all Kk then .inl ()else .inr 2):=by
  intro r
  induction r with
  |nil=>
   intro i hi
   have:=N0 hi
   refine D2 ?_
   unfold Ek
   simp only [show ¬(i:Int)<c.Pts.length by omega,decide_false,bM,List.all_nil,if_true]
  |cons p r ih=>
   intro i hi
   have hlt:=L3 hi
   have hstep:Ek c (i:Int)=if Kk p then some (.go ((i+1:Nat):Int))else some (.out (.inr 2)):=by
     unfold Ek
     simp only [show (i:Int)<c.Pts.length by omega,decide_true,bK,Y2 hi,lB,MW]
     cases h:Kk p with
     |true=>simp only [bU,bM,if_true];rw [E6 (by omega)];rfl
     |false=>simp
   cases h:Kk p with
   |true=>
    rw [h,bN rfl]at hstep
    rw [H8 hstep,ih (i+1) (I4 hi)]
    simp [h]
   |false=>
    rw [h]at hstep
    rw [D2 hstep]
    simp [h]
theorem iV {v:CurveVector}(hv:WE v): ∃l,Kv (M8 v v)=some l∧(D4 (l*l) !=M8 v v)= !(rt (M8 v v)*rt (M8 v v)==M8 v v)∧(rt (M8 v v)*rt (M8 v v)=M8 v v→l=rt (M8 v v)):=by
  have hb:=XZ hv hv
  obtain ⟨l,h1,h2,h3,h4,h5⟩:=OX (YA v) (by omega)
  have hmm:l*l≤134217728*134217728:=ZR (by omega) (by omega)
  have hmm0:=Tf l
  refine ⟨l,h1,?_,fun h=>h5 (h4.2 h)⟩
  rw [E6 (by omega)]
  by_cases h:l*l=M8 v v
  ·simp [h,h4.1 h]
  ·have h': ¬rt (M8 v v)*rt (M8 v v)=M8 v v:=fun q=>h (h4.2 q)
   have e1:(l*l !=M8 v v)=true:=bne_iff_ne.2 h
   have e2:(rt (M8 v v)*rt (M8 v v)==M8 v v)=false:=beq_eq_false_iff_ne.2 h'
   rw [e1,e2];rfl
theorem KA (c:Curve)(hl:c.Pts.length≤1000000)(hok:c.Pts.all Kk=true): ∀(r:List Spot) (p:Spot) (i:Nat) (last:Option CurveVector),c.Pts.drop i=p::r→
    (i=0∧last=none∨∃j a,i=j+1∧c.Pts.drop j=a::p::r∧last=some (N9 a p))→
    loop (Ej c) (i:Int)=some (if UW last (p::r)=0 then .inl ()else .inr (UW last (p::r))):=by
  intro r
  induction r with
  |nil=>
   intro p i last hi hlast
   have hlt:=L3 hi
   have:=N0 (I4 hi)
   refine D2 ?_
   unfold Ej
   rw [E6 (n:=(i:Int)+1) (by omega)]
   simp only [show ¬(i:Int)+1< (c.Pts.length:Int) by omega,decide_false,bM,UW,if_true]
  |cons q r ih=>
   intro p i last hi hlast
   have hlt:=L3 hi
   have hi1:=I4 hi
   have hlt1:=L3 hi1
   have hp:Kk p=true:=l6.1 hok p (List.mem_of_mem_drop (i:=i) (by rw [hi];simp))
   have hq:Kk q=true:=l6.1 hok q (List.mem_of_mem_drop (i:=i) (by rw [hi];simp))
   have hv:=Qy hp hq
   have hg1:C3 c.Pts ((i:Int)+1)=some q:=by have:=Y2 hi1;simpa using this
   obtain ⟨l,hl1,hl2,hl3⟩:=iV hv
   have hstep:Ej c (i:Int)=
    if rt (M8 (N9 p q) (N9 p q))*rt (M8 (N9 p q) (N9 p q))≠M8 (N9 p q) (N9 p q)then some (.out (.inr 3))
    else if rt (M8 (N9 p q) (N9 p q))<1000∨rt (M8 (N9 p q) (N9 p q))>1048576 then some (.out (.inr 2))
    else match last with
      |some u=>if M8 u (N9 p q)≤0 then some (.out (.inr 12))else some (.go ((i+1:Nat):Int))
      |none=>some (.go ((i+1:Nat):Int)):=by
     unfold Ej
     rw [E6 (n:=(i:Int)+1) (by omega)]
     simp only [show (i:Int)+1< (c.Pts.length:Int) by omega,decide_true,bK,Y2 hi,hg1,lB,Pf hp hq,Xx hv hv,hl1,hl2]
     by_cases h1:rt (M8 (N9 p q) (N9 p q))*rt (M8 (N9 p q) (N9 p q))=M8 (N9 p q) (N9 p q)
     ·simp only [h1,beq_self_eq_true,bU,bM,ne_eq,not_true_eq_false,if_false,hl3 h1]
      by_cases h2:rt (M8 (N9 p q) (N9 p q))<1000∨rt (M8 (N9 p q) (N9 p q))>1048576
      ·rw [bN h2]
       have:(decide (rt (M8 (N9 p q) (N9 p q))<1000)||decide (rt (M8 (N9 p q) (N9 p q))>1048576))=true:=by simpa using h2
       rw [this];rfl
      ·rw [bO h2]
       have:(decide (rt (M8 (N9 p q) (N9 p q))<1000)||decide (rt (M8 (N9 p q) (N9 p q))>1048576))=false:=by simpa using h2
       rw [this]
       simp only [bM]
       rcases hlast with ⟨rfl,rfl⟩|⟨j,a,rfl,hj,rfl⟩
       ·simp only [Int.natCast_zero,gt_iff_lt,Int.lt_irrefl,decide_false,bM,bR,lB]
        rfl
       ·have h4:(((j+1:Nat):Int))>0:=by omega
        have ha:Kk a=true:=l6.1 hok a (List.mem_of_mem_drop (i:=j) (by rw [hj];simp))
        have hva:=Qy ha hp
        have hgj:C3 c.Pts (D4 (((j+1:Nat):Int) - 1))=some a:=by
          rw [E6 (by omega),show (((j+1:Nat):Int) - 1)=(j:Int) by omega]
          exact Y2 hj
        simp only [h4,decide_true,bK,hgj,lB,Pf ha hp,Xx hv hva,bP]
        rw [cX (N9 p q) (N9 a p)]
        by_cases h5:M8 (N9 a p) (N9 p q)≤0
        ·simp [h5]
        ·simp [h5]
     ·have:(rt (M8 (N9 p q) (N9 p q))*rt (M8 (N9 p q) (N9 p q))==M8 (N9 p q) (N9 p q))=false:=by simpa using h1
      simp only [this,bV,bK,ne_eq,h1,not_false_eq_true,if_true]
   rw [GG]
   have hrec:=ih q (i+1) (some (N9 p q)) hi1 (.inr ⟨i,p,rfl,hi,rfl⟩)
   by_cases h1:rt (M8 (N9 p q) (N9 p q))*rt (M8 (N9 p q) (N9 p q))≠M8 (N9 p q) (N9 p q)
   ·rw [bN h1]at hstep
    rw [D2 hstep,bN h1];rfl
   ·rw [bO h1]at hstep ⊢
    by_cases h2:rt (M8 (N9 p q) (N9 p q))<1000∨rt (M8 (N9 p q) (N9 p q))>1048576
    ·rw [bN h2]at hstep
     rw [D2 hstep,bN h2];rfl
    ·rw [bO h2]at hstep ⊢
     cases last with
     |none=>rw [H8 hstep,hrec]
     |some u=>
      dsimp only at hstep ⊢
      by_cases h5:M8 u (N9 p q)≤0
      ·rw [bN h5]at hstep
       rw [D2 hstep];simp [h5]
      ·rw [bO h5]at hstep
       rw [H8 hstep,hrec];simp [h5]
theorem BH (c:Curve)(hl:c.Pts.length≤1000000):Oa c=some (Be c.Pts):=by
  unfold Oa Be
  by_cases h1:c.Pts.length<2
  ·rw [bN h1,show decide ((c.Pts.length:Int)<2)=true by simp;omega];rfl
  ·rw [bO h1,show decide ((c.Pts.length:Int)<2)=false by simp;omega]
   simp only [bM]
   by_cases h2:c.Pts.length>16
   ·rw [bN h2,show decide ((c.Pts.length:Int)>16)=true by simp;omega];rfl
   ·rw [bO h2,show decide ((c.Pts.length:Int)>16)=false by simp;omega]
    have hg:=JZ c hl c.Pts 0 (by simp)
    rw [show ((0:Nat):Int)=0 from rfl]at hg
    simp only [bM,hg]
    cases h3:c.Pts.all Kk with
    |false=>rfl
    |true=>
     simp only [if_true,thenS]
     cases hp:c.Pts with
     |nil=>rw [hp]at h1;simp at h1
     |cons p r=>
      have:=KA c hl h3 r p 0 none (by rw [hp];rfl) (.inl ⟨rfl,rfl⟩)
      rw [show ((0:Nat):Int)=0 from rfl]at this
      rw [this]
      by_cases h4:UW none (p::r)=0
      ·rw [bN h4,h4]
      ·rw [bO h4]
/-- What a valid chain is. -/
inductive Good:Option CurveVector→List Spot→Prop
  |one (last:Option CurveVector) (p:Spot):Good last [p]
  |cons (last:Option CurveVector) (p q:Spot) (r:List Spot) (h1:rt (M8 (N9 p q) (N9 p q))*rt (M8 (N9 p q) (N9 p q))=M8 (N9 p q) (N9 p q)) (h2:1000≤rt (M8 (N9 p q) (N9 p q))) (h3:rt (M8 (N9 p q) (N9 p q))≤1048576)
     (h4: ∀u,last=some u→0<M8 u (N9 p q)) (h:Good (some (N9 p q)) (q::r)):Good last (p::q::r)
theorem UX: ∀(r:List Spot) (p:Spot) (last:Option CurveVector),UW last (p::r)=0→Good last (p::r):=by
  intro r
  induction r with
  |nil=>intro p last _;exact .one _ _
  |cons q r ih=>
   intro p last h
   rw [GG]at h
   split at h
   ·cases h
   ·rename_i h1
    split at h
    ·cases h
    ·rename_i h2
     have h1:rt (M8 (N9 p q) (N9 p q))*rt (M8 (N9 p q) (N9 p q))=M8 (N9 p q) (N9 p q):=by simpa using h1
     cases last with
     |none=>exact .cons _ _ _ _ h1 (by omega) (by omega) (fun u hu=>by cases hu) (ih q _ h)
     |some u=>
      dsimp only at h
      split at h
      ·cases h
      ·exact .cons _ _ _ _ h1 (by omega) (by omega) (fun u' hu=>by cases hu;omega) (ih q _ h)
theorem UY {last:Option CurveVector}{l:List Spot}(h:Good last l):UW last l=0:=by
  induction h with
  |one=>rfl
  |cons last p q r h1 h2 h3 h4 h ih=>
   rw [GG,bO (by simpa using h1),bO (by omega)]
   cases last with
   |none=>exact ih
   |some u=>dsimp only;rw [bO (by have:=h4 u rfl;omega)];exact ih
structure Valid (l:List Spot):Prop where
  two:2≤l.length
  most:l.length≤16
  ok:l.all Kk=true
  good:Good none l
theorem checkM_zero {l:List Spot}:Be l=0↔Valid l:=by
  unfold Be
  constructor
  ·intro h
   split at h
   ·cases h
   ·rename_i h1
    split at h
    ·cases h
    ·rename_i h2
     split at h
     ·rename_i h3
      cases l with
      |nil=>simp at h1
      |cons p r=>exact ⟨by omega,by omega,h3,UX r p none h⟩
     ·cases h
  ·rintro ⟨h1,h2,h3,h4⟩
   rw [bO (by omega),bO (by omega),bN h3]
   exact UY h4
/-- The pieces of a chain: the number, the piece. -/
noncomputable def Nk:Nat→Int→List Spot→List (Int×CurvePiece)
  |i,s,p::q::r=>((i:Int),⟨p,N9 p q,rt (M8 (N9 p q) (N9 p q)),s⟩)::Nk (i+1) (D4 (s+rt (M8 (N9 p q) (N9 p q)))) (q::r)
  |_,_,_=> []
theorem Xy (i:Nat)(s:Int)(p q:Spot)(r:List Spot):Nk i s (p::q::r)=((i:Int),⟨p,N9 p q,rt (M8 (N9 p q) (N9 p q)),s⟩)::Nk (i+1) (D4 (s+rt (M8 (N9 p q) (N9 p q)))) (q::r):=by conv=>lhs;unfold Nk
theorem UZ (pts:List Spot)(hok:pts.all Kk=true): ∀(r:List Spot) (p:Spot) (i:Nat) (s:Int),pts.drop i=p::r→Je pts r.length i s=some (Nk i s (p::r)):=by
  intro r
  induction r with
  |nil=>intro p i s _;rfl
  |cons q r ih=>
   intro p i s hi
   have hi1:=I4 hi
   have hp:Kk p=true:=l6.1 hok p (List.mem_of_mem_drop (i:=i) (by rw [hi];simp))
   have hq:Kk q=true:=l6.1 hok q (List.mem_of_mem_drop (i:=i) (by rw [hi];simp))
   have hv:=Qy hp hq
   have h0:pts[i]? =some p:=by have:=congrArg (fun z=>z[0]?) hi;simpa using this
   have h1:pts[i+1]? =some q:=by have:=congrArg (fun z=>z[0]?) hi1;simpa using this
   rw [lL,Je,h0,h1]
   simp only [lB,Mz hp hq,Sz hv hv,DF]
   rw [ih q (i+1) _ hi1,Xy]
   rfl
theorem MY {pts:List Spot}(h:Valid pts):Qr pts=some (Nk 0 0 pts):=by
  unfold Qr
  have:=h.most
  rw [bN (by omega)]
  cases hp:pts with
  |nil=>have:=h.two;rw [hp]at this;simp at this
  |cons p r=>exact UZ (p::r) (by rw [← hp];exact h.ok) r p 0 0 rfl
/-- The lengths. -/
noncomputable def Ad:List Spot→List Int
  |p::q::r=>rt (M8 (N9 p q) (N9 p q))::Ad (q::r)
  |_=> []
theorem Tm (p q:Spot)(r:List Spot):Ad (p::q::r)=rt (M8 (N9 p q) (N9 p q))::Ad (q::r):=by conv=>lhs;unfold Ad
theorem Ig: ∀(r:List Spot) (p:Spot),(Ad (p::r)).length=r.length
  | [],_=>rfl
  |q::r,p=>by rw [Tm,lL,Ig r q,lL]
theorem GH: ∀(r:List Spot) (p:Spot) (i:Nat) (s:Int),(Nk i s (p::r)).map (·.2.l)=Ad (p::r)
  | [],_,_,_=>rfl
  |q::r,p,i,s=>by rw [Xy,Tm,lR,GH r q]
theorem VA: ∀(L:List (Int×CurvePiece)) (out:List Int),out.length+L.length≤1000000000→loopL Fg (fun x=>x) L out=some (out++L.map (·.2.l)):=by
  intro L
  induction L with
  |nil=>intro out _;simp [loopL]
  |cons a L ih=>
   intro out h
   simp only [lL]at h
   have:Fg out a=some (.go (out++ [a.2.l])):=by
     unfold Fg
     rw [Di (by simp;omega)];rfl
   rw [loopL,this]
   dsimp only
   rw [ih _ (by simp;omega)]
   simp
theorem KB (c:Curve)(hl:c.Pts.length≤1000000):Fm c=some (if Be c.Pts=0 then Ad c.Pts else []):=by
  unfold Fm
  rw [Pg c hl,lB]
  by_cases h:Be c.Pts=0
  ·rw [bN h,h]
   have hv:=checkM_zero.1 h
   have:=hv.most
   simp only [bne_self_eq_false,bM,MY hv,lB]
   cases hp:c.Pts with
   |nil=>have:=hv.two;rw [hp]at this;simp at this
   |cons p r=>
    have e:=GH r p 0 0
    rw [VA _ _ (by
     have:=congrArg List.length e
     rw [lS,Ig]at this
     rw [this];rw [hp]at hl;simp at hl ⊢;omega)]
    rw [e];rfl
  ·rw [bO h,show (Be c.Pts !=0)=true from bne_iff_ne.2 h];rfl
theorem GI (c:Curve)(hl:c.Pts.length≤1000000)(hok:c.Pts.all Kk=true): ∀(r:List Spot) (p:Spot) (i:Nat) (out:List Int) (last:Option CurveVector),c.Pts.drop i=p::r→Good last (p::r)→out.length+r.length≤1000000→
    loop (Dd c) (out,(i:Int))=some (out++Ad (p::r)):=by
  intro r
  induction r with
  |nil=>
   intro p i out last hi _ _
   have hlt:=L3 hi
   have:=N0 (I4 hi)
   refine D2 ?_
   unfold Dd
   dsimp only
   rw [E6 (n:=(i:Int)+1) (by omega)]
   simp only [show ¬(i:Int)+1< (c.Pts.length:Int) by omega,decide_false,bM,Ad,lP]
  |cons q r ih=>
   intro p i out last hi hg ho
   have hlt:=L3 hi
   have hi1:=I4 hi
   have hlt1:=L3 hi1
   have hp:Kk p=true:=l6.1 hok p (List.mem_of_mem_drop (i:=i) (by rw [hi];simp))
   have hq:Kk q=true:=l6.1 hok q (List.mem_of_mem_drop (i:=i) (by rw [hi];simp))
   have hv:=Qy hp hq
   have hg1:C3 c.Pts ((i:Int)+1)=some q:=by have:=Y2 hi1;simpa using this
   obtain ⟨l,hl1,hl2,hl3⟩:=iV hv
   cases hg with
   |cons _ _ _ _ h1 h2 h3 h4 hg=>
    have hll:=hl3 h1
    subst hll
    simp only [lL]at ho
    have hstep:Dd c (out,(i:Int))=some (.go (out++ [rt (M8 (N9 p q) (N9 p q))],((i+1:Nat):Int))):=by
      unfold Dd
      dsimp only
      rw [E6 (n:=(i:Int)+1) (by omega)]
      simp only [show (i:Int)+1< (c.Pts.length:Int) by omega,decide_true,bK,Y2 hi,hg1,lB,Pf hp hq,Xx hv hv,hl1]
      rw [Di (by simp;omega)]
      rfl
    rw [H8 hstep,ih q (i+1) _ _ hi1 hg (by simp;omega),Tm]
    simp
theorem Si (c:Curve)(hl:c.Pts.length≤1000000):Do c=some (if Be c.Pts=0 then Ad c.Pts else []):=by
  unfold Do
  rw [BH c hl,lB]
  by_cases h:Be c.Pts=0
  ·rw [bN h,h]
   have hv:=checkM_zero.1 h
   simp only [bne_self_eq_false,bM]
   cases hp:c.Pts with
   |nil=>have:=hv.two;rw [hp]at this;simp at this
   |cons p r=>
    have:=GI c hl hv.ok r p 0 [] none (by rw [hp];rfl) (by rw [← hp];exact hv.good) (by rw [hp]at hl;simp at hl ⊢;omega)
    rw [show ((0:Nat):Int)=0 from rfl]at this
    rw [this];rfl
  ·rw [bO h,show (Be c.Pts !=0)=true from bne_iff_ne.2 h];rfl
/-- A sum, as the programs take it. -/
def Xz:Int→List Int→Int
  |s,[]=>s
  |s,a::l=>Xz (D4 (s+a)) l
theorem GJ (l:List Int)(hl:l.length≤1000000): ∀(r:List Int) (i:Nat) (s:Int),l.drop i=r→loop (Au l) (s,(i:Int))=some (Xz s r):=by
  intro r
  induction r with
  |nil=>
   intro i s hi
   have:=N0 hi
   refine D2 ?_
   unfold Au
   simp only [show ¬(i:Int)<l.length by omega,decide_false,bM,Xz]
  |cons a r ih=>
   intro i s hi
   have hlt:=L3 hi
   have hstep:Au l (s,(i:Int))=some (.go (D4 (s+a),((i+1:Nat):Int))):=by
     unfold Au
     simp only [show (i:Int)<l.length by omega,decide_true,bK,Y2 hi,lB]
     rw [E6 (n:=(i:Int)+1) (by omega)];rfl
   rw [H8 hstep,ih (i+1) _ (I4 hi),Xz]
theorem GK (l:List Int)(hl:l.length≤1000000): ∀(r:List Int) (i:Nat) (s:Int),l.drop i=r→loop (Az l) (s,(i:Int))=some (Xz s r):=by
  intro r
  induction r with
  |nil=>
   intro i s hi
   have:=N0 hi
   refine D2 ?_
   unfold Az
   simp only [show ¬(i:Int)<l.length by omega,decide_false,bM,Xz]
  |cons a r ih=>
   intro i s hi
   have hlt:=L3 hi
   have hstep:Az l (s,(i:Int))=some (.go (D4 (s+a),((i+1:Nat):Int))):=by
     unfold Az
     simp only [show (i:Int)<l.length by omega,decide_true,bK,Y2 hi,lB]
     rw [E6 (n:=(i:Int)+1) (by omega)];rfl
   rw [H8 hstep,ih (i+1) _ (I4 hi),Xz]
noncomputable def Ev (c:Curve):List Int:=if Be c.Pts=0 then Ad c.Pts else []
theorem nQ: ∀l:List Spot,(Ad l).length≤l.length
  | []=>by simp [Ad]
  |p::r=>by rw [Ig];simp
theorem MZ (c:Curve):(Ev c).length≤c.Pts.length:=by
  unfold Ev
  split
  ·exact nQ _
  ·simp
theorem Yr (c:Curve)(hl:c.Pts.length≤1000000):Dk c=some (Xz 0 (Ev c)):=by
  unfold Dk
  rw [KB c hl,lB]
  have:=MZ c
  have h:=GJ (Ev c) (by omega) (Ev c) 0 0 (by simp)
  rw [show ((0:Nat):Int)=0 from rfl]at h
  show (loop (Au (Ev c)) (0,0)).bind _=_
  rw [h];rfl
theorem Ys (c:Curve)(hl:c.Pts.length≤1000000):Dp c=some (Xz 0 (Ev c)):=by
  unfold Dp
  rw [Si c hl,lB]
  have:=MZ c
  have h:=GK (Ev c) (by omega) (Ev c) 0 0 (by simp)
  rw [show ((0:Nat):Int)=0 from rfl]at h
  show (loop (Az (Ev c)) (0,0)).bind _=_
  rw [h];rfl
/-- A quarter turn, so many times. -/
def cY:Nat→CurveVector→CurveVector
  |0,v=>v
  |n+1,v=>cY n ⟨-v.y,v.x⟩
theorem SL: ∀(n:Nat) (v w:CurveVector),M8 (cY n v) (cY n w)=M8 v w
  |0,_,_=>rfl
  |n+1,v,w=>by rw [cY,cY,SL n];unfold M8;grind
/-- A piece's vector, made of numbers: in one quadrant. -/
def qR (n:Nat)(v:CurveVector):Prop:= ∃x y L:Int,v=cY n ⟨x,y⟩∧0<x∧0≤y∧x*x+y*y=L*L∧1000≤L∧L≤3029∧x≤L∧y≤L
inductive Ch (Q:CurveVector→Prop):List Spot→Prop
  |one (p:Spot):Ch Q [p]
  |cons (p q:Spot) (r:List Spot) (h:Q (N9 p q)) (hr:Ch Q (q::r)):Ch Q (p::q::r)
theorem NA {n:Nat}: ∀(r:List Spot) (p:Spot) (last:Option CurveVector),Ch (qR n) (p::r)→(∀u,last=some u→qR n u)→Good last (p::r)
  | [],p,last,_,_=> .one _ _
  |q::r,p,last,hc,hl=>by
   cases hc with
   |cons _ _ _ h1 h2=>
    have hq:=h1
    obtain ⟨x,y,L,hv,hx,hy,hsq,hL1,hL2,hxL,hyL⟩:=h1
    have hd:M8 (N9 p q) (N9 p q)=L*L:=by rw [hv,SL];unfold M8;exact hsq
    have hrt:rt (M8 (N9 p q) (N9 p q))=L:=by rw [hd];exact iU (by omega) (by omega)
    refine .cons _ _ _ _ (by rw [hrt,hd]) (by rw [hrt];exact hL1) (by rw [hrt];omega) (fun u hu=> ?_) (NA r q _ h2 (fun u hu=>by cases hu;exact hq))
    obtain ⟨x',y',L',hv',hx',hy',_⟩:=hl u hu
    rw [hv,hv',SL]
    unfold M8
    have:=Int.mul_pos hx' hx
    have:=wM hy' hy
    dsimp only
    omega
/-- What the curves made of numbers are like. -/
structure Made (l:List Spot):Prop where
  two:2≤l.length
  six:l.length≤6
  ch: ∃n,Ch (qR n) l
  bd: ∀p∈l, -50000≤p.X∧p.X≤50000∧ -50000≤p.Y∧p.Y≤50000
theorem Made.valid {l:List Spot}(h:Made l):Valid l:=by
  obtain ⟨n,hc⟩:=h.ch
  have:=h.two;have:=h.six
  refine ⟨h.two,by omega,l6.2 fun p hp=>okS_iff.2 (by have:=h.bd p hp;omega),?_⟩
  match l,h,hc with
  |p::r,_,hc=>exact NA r p none hc (fun u hu=>by cases hu)
  | [],h,_=>exact absurd h.two (by simp)
noncomputable def X1 (p q:Spot):Int:=rt (M8 (N9 p q) (N9 p q))
theorem Gm (p q:Spot)(r:List Spot):Ad (p::q::r)=X1 p q::Ad (q::r):=Tm p q r
theorem Wc (i:Nat)(s:Int)(p q:Spot)(r:List Spot):Nk i s (p::q::r)=((i:Int),⟨p,N9 p q,X1 p q,s⟩)::Nk (i+1) (D4 (s+X1 p q)) (q::r):=Xy i s p q r
theorem Good.inv {last:Option CurveVector}{p q:Spot}{r:List Spot}(h:Good last (p::q::r)):X1 p q*X1 p q=M8 (N9 p q) (N9 p q)∧1000≤X1 p q∧X1 p q≤1048576∧(∀u,last=some u→0<M8 u (N9 p q))∧Good (some (N9 p q)) (q::r):=by
  cases h with|cons _ _ _ _ h1 h2 h3 h4 h=>exact ⟨h1,h2,h3,h4,h⟩
/-- The piece in which an offset lies. -/
noncomputable def Dh:Nat→Int→Spot→Spot→List Spot→Int→Nat×CurvePiece
  |i,st,p,q,[],_=>(i,⟨p,N9 p q,X1 p q,st⟩)
  |i,st,p,q,q'::r,s=>if st+X1 p q≤s then Dh (i+1) (st+X1 p q) q q' r s else (i,⟨p,N9 p q,X1 p q,st⟩)
theorem cZ (s:Int): ∀(r:List Spot) (p:Spot) (i:Nat) (st:Int) (x:Int×CurvePiece) (last:Option CurveVector),Good last (p::r)→0<i→0≤st→s<st→st+1048576*r.length≤1000000000→
    loopL (Y9 s) (fun x=>(x.1,x.2)) (Nk i st (p::r)) x=some x:=by
  intro r
  induction r with
  |nil=>intro p i st x last _ _ _ _ _;rfl
  |cons q r ih=>
   intro p i st x last hg hi h0 hs hb
   obtain ⟨h1,h2,h3,h4,hg⟩:=hg.inv
   ·skip
    simp only [lL]at hb
    have hst:D4 (st+X1 p q)=st+X1 p q:=E6 (by omega)
    rw [Wc,loopL]
    have:Y9 s x ((i:Int),⟨p,N9 p q,X1 p q,st⟩)=some (.go (x.1,x.2)):=by
      unfold Y9
      dsimp only
      rw [show ((i:Int)==0)=false from beq_eq_false_iff_ne.2 (by omega),show decide (st≤s)=false by simp;omega]
      rfl
    rw [this]
    dsimp only
    rw [hst]
    exact ih q (i+1) _ _ _ hg (by omega) (by omega) (by omega) (by omega)
theorem dA (s:Int)(hs0:0≤s): ∀(r:List Spot) (p q:Spot) (i:Nat) (st:Int) (x:Int×CurvePiece) (last:Option CurveVector),Good last (p::q::r)→0≤st→st≤s→st+1048576* (r.length+1)≤1000000000→
    loopL (Y9 s) (fun x=>(x.1,x.2)) (Nk i st (p::q::r)) x=some (((Dh i st p q r s).1:Int),(Dh i st p q r s).2):=by
  intro r
  induction r with
  |nil=>
   intro p q i st x last hg h0 hs hb
   rw [Wc,loopL]
   have:Y9 s x ((i:Int),⟨p,N9 p q,X1 p q,st⟩)=some (.go ((i:Int),⟨p,N9 p q,X1 p q,st⟩)):=by
     unfold Y9
     dsimp only
     rw [show decide (st≤s)=true by simp [hs]]
     simp
   rw [this]
   rfl
  |cons q' r ih=>
   intro p q i st x last hg h0 hs hb
   obtain ⟨h1,h2,h3,h4,hg⟩:=hg.inv
   ·skip
    simp only [lL]at hb
    have hst:D4 (st+X1 p q)=st+X1 p q:=E6 (by omega)
    rw [Wc,loopL]
    have:Y9 s x ((i:Int),⟨p,N9 p q,X1 p q,st⟩)=some (.go ((i:Int),⟨p,N9 p q,X1 p q,st⟩)):=by
      unfold Y9
      dsimp only
      rw [show decide (st≤s)=true by simp [hs]]
      simp
    rw [this]
    dsimp only
    rw [hst,Dh]
    by_cases hc:st+X1 p q≤s
    ·rw [bN hc]
     exact ih q q' (i+1) _ _ _ hg (by omega) hc (by omega)
    ·rw [bO hc]
     exact cZ s (q'::r) q (i+1) _ _ _ hg (by omega) (by omega) (by omega) (by simp only [lL];omega)
/-- The sum of what is left. -/
noncomputable def Hv:List Int→Int
  | []=>0
  |a::l=>a+Hv l
theorem IX: ∀(a b:List Int),Hv (a++b)=Hv a+Hv b
  | [],b=>by simp [Hv]
  |x::a,b=>by rw [lV,Hv,Hv,IX a b];omega
theorem HT: ∀(i:Nat) (l:List Spot),Ad (l.drop i)=(Ad l).drop i
  |0,_=>rfl
  |_+1,[]=>by simp [Ad]
  |_+1,[_]=>by simp [Ad]
  |i+1,p::q::r=>by rw [Gm,List.drop_succ_cons,List.drop_succ_cons];exact HT i (q::r)
theorem dB {L:List Int}{i:Nat}{a:Int}{r:List Int}(h:L.drop i=a::r):Hv (L.take (i+1))=Hv (L.take i)+a:=by
  have hlt:=L3 h
  have:L[i]=a:=by
    have:=congrArg (fun z=>z[0]?) h
    simp at this
    rw [lH hlt]at this
    exact lD this
  rw [List.take_succ_eq_append_getElem hlt,IX,this]
  simp [Hv]
/-- What the found piece is. -/
theorem YB (pts:List Spot)(s:Int): ∀(r:List Spot) (p q:Spot) (i:Nat) (st:Int) (last:Option CurveVector),Good last (p::q::r)→pts.drop i=p::q::r→0≤st→st≤s→st=Hv ((Ad pts).take i)→
    ∃p' q' r',(Dh i st p q r s).2.start=Hv ((Ad pts).take (Dh i st p q r s).1)∧(pts.drop (Dh i st p q r s).1=p'::q'::r')∧(Dh i st p q r s).2.p=p'∧(Dh i st p q r s).2.v=N9 p' q'∧(Dh i st p q r s).2.l=X1 p' q'∧st≤(Dh i st p q r s).2.start∧(Dh i st p q r s).2.start≤s∧1000≤X1 p' q'∧X1 p' q'≤1048576∧
     X1 p' q'*X1 p' q'=M8 (N9 p' q') (N9 p' q')∧(r'≠ []→s< (Dh i st p q r s).2.start+X1 p' q'):=by
  intro r
  induction r with
  |nil=>
   intro p q i st last hg hi h0 hs hst
   obtain ⟨h1,h2,h3,h4,hg⟩:=hg.inv
   exact ⟨p,q,[],hst,hi,rfl,rfl,rfl,Int.le_refl _,hs,h2,h3,h1,fun h=>absurd rfl h⟩
  |cons q' r ih=>
   intro p q i st last hg hi h0 hs hst
   obtain ⟨h1,h2,h3,h4,hg⟩:=hg.inv
   ·skip
    have hdl:(Ad pts).drop i=X1 p q::Ad (q::q'::r):=by rw [← HT,hi,Gm]
    rw [Dh]
    by_cases hc:st+X1 p q≤s
    ·rw [bN hc]
     obtain ⟨a,b,c,e0,e1,e2,e3,e4,e5,e6⟩:=ih q q' (i+1) (st+X1 p q) _ hg (I4 hi) (by omega) hc (by rw [dB hdl,hst])
     exact ⟨a,b,c,e0,e1,e2,e3,e4,by omega,e6⟩
    ·rw [bO hc]
     exact ⟨p,q,q'::r,hst,hi,rfl,rfl,rfl,Int.le_refl _,hs,h2,h3,h1,fun _=>by dsimp only;omega⟩
theorem QA: ∀(l:List Int) (s:Int),(∀a∈l,0≤a∧a≤1048576)→0≤s→s+1048576*l.length≤1000000000000→Xz s l=s+Hv l
  | [],s,_,_,_=>by simp [Xz,Hv]
  |a::l,s,h,h0,hb=>by
   have ha:=h a (by simp)
   simp only [lL]at hb
   rw [Xz,Hv,E6 (by omega),QA l (s+a) (fun b hb=>h b (by simp [hb])) (by omega) (by omega)]
   omega
theorem HU: ∀(r:List Spot) (p:Spot) (last:Option CurveVector),Good last (p::r)→∀a∈Ad (p::r),1000≤a∧a≤1048576
  | [],p,last,_,a,ha=>by simp [Ad]at ha
  |q::r,p,last,hg,a,ha=>by
   obtain ⟨h1,h2,h3,h4,hg⟩:=hg.inv
   ·skip
    rw [Gm,lU]at ha
    rcases ha with rfl|ha
    ·exact ⟨h2,h3⟩
    ·exact HU r q _ hg a ha
theorem BI: ∀(l:List Int),(∀a∈l,0≤a)→0≤Hv l
  | [],_=>by simp [Hv]
  |a::l,h=>by have:=h a (by simp);have:=BI l (fun b hb=>h b (by simp [hb]));rw [Hv];omega
theorem VB (p q:Spot):Ad [p,q]= [X1 p q]:=rfl
theorem NB (L:List Int)(hL:L.length≤1000)(s:Int): ∀(r:List Spot) (p q:Spot) (i:Nat) (st:Int) (last:Option CurveVector),Good last (p::q::r)→L.drop i=Ad (p::q::r)→0≤st→st≤s→s≤1000000000000→
    s≤st+Hv (Ad (p::q::r))→∃y,loop (Ck L) (s - st,(i:Int))=some y∧
     Sum.elim (fun y1=>some (D4 ((L.length:Int) - 1),y1)) some y=some (((Dh i st p q r s).1:Int),s - (Dh i st p q r s).2.start):=by
  intro r
  induction r with
  |nil=>
   intro p q i st last hg hd h0 hs hb hsum
   have hlen:L.length=i+1:=by
     have:=congrArg List.length hd
     rw [lX,VB]at this
     simp at this;omega
   refine ⟨.inl (s - st),D2 ?_,?_⟩
   ·unfold Ck
    dsimp only
    rw [E6 (n:=(L.length:Int) - 1) (by omega)]
    simp only [show ¬(i:Int)< (L.length:Int) - 1 by omega,decide_false,bM]
   ·show some (D4 ((L.length:Int) - 1),s - st)=some ((i:Int),s - st)
    rw [E6 (by omega),hlen]
    congr 2
    omega
  |cons q' r ih=>
   intro p q i st last hg hd h0 hs hb hsum
   obtain ⟨h1,h2,h3,h4,hg⟩:=hg.inv
   ·skip
    have hd1:L.drop i=X1 p q::Ad (q::q'::r):=by rw [hd,Gm]
    have hd2:=I4 hd1
    have hlt:=L3 (show L.drop (i+1)=X1 q q'::Ad (q'::r) by rw [hd2,Gm])
    have hstep:Ck L (s - st,(i:Int))=if s - st<X1 p q then some (.out (.inr ((i:Int),s - st)))else some (.go (s - (st+X1 p q),((i+1:Nat):Int))):=by
      unfold Ck
      dsimp only
      rw [E6 (n:=(L.length:Int) - 1) (by omega)]
      simp only [show (i:Int)< (L.length:Int) - 1 by omega,decide_true,bK,Y2 hd1,lB]
      by_cases hc:s - st<X1 p q
      ·simp only [hc,decide_true,bK,if_true]
      ·simp only [hc,decide_false,bM,if_false]
       rw [E6 (by omega),E6 (by omega)]
       congr 3
       omega
    rw [Gm,Hv]at hsum
    rw [Dh]
    by_cases hc:st+X1 p q≤s
    ·rw [bO (by omega)]at hstep
     rw [bN hc,H8 hstep]
     exact ih q q' (i+1) (st+X1 p q) _ hg hd2 (by omega) hc hb (by omega)
    ·rw [bN (by omega)]at hstep
     rw [bO hc,D2 hstep]
     exact ⟨_,rfl,rfl⟩
theorem Ya {l:List Spot}(h:Valid l): ∃p q r,l=p::q::r:=by
  match l,h with
  |p::q::r,_=>exact ⟨p,q,r,rfl⟩
  | [p],h=>exact absurd h.two (by simp)
  | [],h=>exact absurd h.two (by simp)
/-- Where an offset lies in a valid curve. -/
structure At (l:List Spot)(s:Int) where
  i:Nat
  p:Spot
  q:Spot
  r:List Spot
  st:Int
  hd:l.drop i=p::q::r
  h0:0≤st
  hs:st≤s
  l1:1000≤X1 p q
  l2:X1 p q≤1048576
  sq:X1 p q*X1 p q=M8 (N9 p q) (N9 p q)
  nx:r≠ []→s<st+X1 p q
  pre:st=Hv ((Ad l).take i)
theorem VC {l:List Spot}(h:Valid l):0≤Hv (Ad l)∧Hv (Ad l)≤16777216∧Xz 0 (Ad l)=Hv (Ad l):=by
  obtain ⟨p,q,r,rfl⟩:=Ya h
  have hg:=HU (q::r) p none h.good
  have hm:=h.most
  have hlen:(Ad (p::q::r)).length≤15:=by rw [Ig];simp at hm ⊢;omega
  have hs:=BI (Ad (p::q::r)) (fun a ha=>by have:=hg a ha;omega)
  have key: ∀l:List Int,(∀a∈l,a≤1048576)→Hv l≤1048576*l.length:=by
    intro l
    induction l with
    |nil=>intro _;simp [Hv]
    |cons a l ih=>intro h;have:=h a (by simp);have:=ih (fun b hb=>h b (by simp [hb]));rw [Hv,lL];omega
  have:=key (Ad (p::q::r)) (fun a ha=>(hg a ha).2)
  refine ⟨hs,by omega,?_⟩
  rw [QA _ _ (fun a ha=>by have:=hg a ha;omega) (by omega) (by omega)]
  omega
theorem nR (c:Curve)(h:Valid c.Pts)(s:Int)(hs:0≤s∧s≤9223372036854775807): ∃A:At c.Pts s,Qi c s=some ((A.i:Int),⟨A.p,N9 A.p A.q,X1 A.p A.q,A.st⟩,min (s - A.st) (X1 A.p A.q))∧
    (∀s',s'=min s (Hv (Ad c.Pts))→thenS (loop (Ck (Ad c.Pts)) (s',0)) (fun y1=>some (D4 (((Ad c.Pts).length:Int) - 1),y1)) (fun r=>some r)=some ((A.i:Int),min (s - A.st) (X1 A.p A.q))):=by
  obtain ⟨p,q,r,hp⟩:=Ya h
  have hg:Good none (p::q::r):=by rw [← hp];exact h.good
  have hm:=h.most
  rw [hp]at hm
  simp only [lL]at hm
  obtain ⟨p',q',r',epre,e1,e2,e3,e4,e5,e6,e7,e8,e9,e10⟩:=YB c.Pts s r p q 0 0 none hg (by rw [hp];rfl) (by omega) hs.1 rfl
  have hfm:(Dh 0 0 p q r s).2=⟨p',N9 p' q',X1 p' q',(Dh 0 0 p q r s).2.start⟩:=by
    generalize (Dh 0 0 p q r s).2=z at*
    cases z
    simp only at e2 e3 e4
    rw [e2,e3,e4]
  refine ⟨⟨(Dh 0 0 p q r s).1,p',q',r',(Dh 0 0 p q r s).2.start,e1,e5,e6,e7,e8,e9,e10,epre⟩,?_,?_⟩
  ·unfold Qi
   have e0:Qr c.Pts=some (Nk 0 0 (p::q::r)):=by rw [MY h,hp]
   rw [e0,lB,dA s hs.1 r p q 0 0 _ none hg (by omega) hs.1 (by omega),lB]
   dsimp only
   rw [e4,E6 (by omega),Il,Nb,Option.some.injEq,Prod.mk.injEq,Prod.mk.injEq]
   exact ⟨rfl,hfm,by omega⟩
  ·rintro s' rfl
   have ht:=VC h
   rw [hp]at ht
   have hsame:Dh 0 0 p q r (min s (Hv (Ad c.Pts)))=Dh 0 0 p q r s∧(min s (Hv (Ad c.Pts))) - (Dh 0 0 p q r s).2.start=min (s - (Dh 0 0 p q r s).2.start) (X1 p' q'):=by
     have key: ∀(r:List Spot) (p q:Spot) (i:Nat) (st:Int) (last:Option CurveVector),Good last (p::q::r)→st≤s→Dh i st p q r (min s (st+Hv (Ad (p::q::r))))=Dh i st p q r s∧
      (min s (st+Hv (Ad (p::q::r)))) - (Dh i st p q r s).2.start=min (s - (Dh i st p q r s).2.start) (Dh i st p q r s).2.l:=by
       intro r
       induction r with
       |nil=>
        intro p q i st last hg hst
        refine ⟨rfl,?_⟩
        have:Hv (Ad [p,q])=X1 p q:=by rw [VB];simp [Hv]
        rw [this]
        show min s (st+X1 p q) - st=min (s - st) (X1 p q)
        omega
       |cons q' r ih=>
        intro p q i st last hg hst
        obtain ⟨h1,h2,h3,h4,hg'⟩:=hg.inv
        have hnn:=HU (q'::r) q _ hg'
        have hpos:1000≤Hv (Ad (q::q'::r)):=by
          have h5:=(hg'.inv).2.1
          have:=BI (Ad (q'::r)) (fun a ha=>by have:=hnn a (by rw [Gm];simp [ha]);omega)
          rw [Gm,Hv];omega
        rw [Gm,Hv,Dh,Dh]
        by_cases hc:st+X1 p q≤s
        ·rw [bN hc,bN (by omega),show st+ (X1 p q+Hv (Ad (q::q'::r)))=(st+X1 p q)+Hv (Ad (q::q'::r)) by omega]
         exact ih q q' (i+1) (st+X1 p q) _ hg' hc
        ·rw [bO hc,bO (by omega)]
         refine ⟨rfl,?_⟩
         dsimp only
         omega
     have:=key r p q 0 0 none hg hs.1
     rw [Int.zero_add,← hp]at this
     refine ⟨this.1,?_⟩
     rw [this.2,hfm]
   have hlen:(Ad c.Pts).length≤1000:=by rw [hp,Ig];simp;omega
   obtain ⟨y,hy,hy2⟩:=NB (Ad c.Pts) hlen (min s (Hv (Ad c.Pts))) r p q 0 0 none hg (by rw [hp];rfl) (by omega) (by rw [hp];omega) (by rw [hp];omega) (by rw [hp];omega)
   rw [Int.sub_zero]at hy
   rw [show ((0:Nat):Int)=0 from rfl]at hy
   rw [hy]
   rw [hsame.1,hsame.2]at hy2
   cases y<;>exact hy2
theorem YC (a b:Int):Gb a b=Rx a b:=rfl
theorem VD {a b:Int}(h:b≠0): ∃q,Gb a b=some q:=by
  unfold Gb JO Re
  rw [bO h,bO h]
  simp only [lB]
  cases decide (a.tmod b<0)<;>exact ⟨_,rfl⟩
theorem NC (c:Curve)(hl:c.Pts.length≤1000000)(s:Int)(hs: -9223372036854775808≤s∧s≤9223372036854775807): ∃x,Rw c s=some x∧
    (∀_:Valid c.Pts,∃A:At c.Pts (max 0 s),Qi c (Li true 0 s)=some ((A.i:Int),⟨A.p,N9 A.p A.q,X1 A.p A.q,A.st⟩,min (max 0 s - A.st) (X1 A.p A.q))∧x=((A.i:Int),min (max 0 s - A.st) (X1 A.p A.q))):=by
  unfold Rw
  rw [show Do c=some (Ev c) from Si c hl,Ys c hl]
  simp only [lB]
  by_cases hv:Be c.Pts=0
  ·have V:=checkM_zero.1 hv
   obtain ⟨A,h1,h2⟩:=nR c V (max 0 s) (by omega)
   have ht:=VC V
   have hpl:Ev c=Ad c.Pts:=bN hv
   obtain ⟨p,q,r,hp⟩:=Ya V
   have hne:(((Ad c.Pts).length:Int)==0)=false:=by rw [hp,Ig];exact beq_eq_false_iff_ne.2 (by simp;omega)
   rw [hpl]
   simp only [bM,hne]
   refine ⟨_,?_,fun _=>⟨A,by rw [Nb];exact h1,rfl⟩⟩
   rw [ht.2.2,Nb,Il]
   exact h2 _ (by omega)
  ·have hpl:Ev c= []:=bO hv
   rw [hpl]
   exact ⟨(0,0),rfl,fun h=>absurd (checkM_zero.2 h) hv⟩
theorem qS {l:List Spot}{s:Int}(A:At l s)(hl:l.length≤1000000):C3 l (A.i:Int)=some A.p∧C3 l (D4 ((A.i:Int)+1))=some A.q∧C3 (Ad l) (A.i:Int)=some (X1 A.p A.q):=by
  have h1:=L3 A.hd
  have h2:=Y2 (I4 A.hd)
  refine ⟨Y2 A.hd,by rw [E6 (by omega)];simpa using h2,?_⟩
  refine Y2 (r:=Ad (A.q::A.r)) ?_
  rw [← HT,A.hd,Gm]
theorem iW {l:List Spot}{s:Int}(A:At l s)(V:Valid l):Kk A.p=true∧Kk A.q=true:=
  ⟨l6.1 V.ok _ (List.mem_of_mem_drop (i:=A.i) (by rw [A.hd];simp)),l6.1 V.ok _ (List.mem_of_mem_drop (i:=A.i) (by rw [A.hd];simp))⟩
theorem nS (c:Curve)(hl:c.Pts.length≤1000000)(s:Int)(hs: -9223372036854775808≤s∧s≤9223372036854775807): ∃x,Jl c s=some x∧Um c s=some x:=by
  obtain ⟨x,hy,hA⟩:=NC c hl s hs
  unfold Jl Um
  rw [Pg c hl,show Do c=some (Ev c) from Si c hl,hy]
  simp only [lB]
  by_cases hv:Be c.Pts=0
  ·have V:=checkM_zero.1 hv
   obtain ⟨A,h1,rfl⟩:=hA V
   obtain ⟨p,q,r,hp⟩:=Ya V
   have hne:(((Ad c.Pts).length:Int)==0)=false:=by rw [hp,Ig];exact beq_eq_false_iff_ne.2 (by simp;omega)
   have hpl:Ev c=Ad c.Pts:=bN hv
   obtain ⟨g1,g2,g3⟩:=qS A hl
   obtain ⟨o1,o2⟩:=iW A V
   have hne0:X1 A.p A.q≠0:=by have:=A.l1;omega
   obtain ⟨q1,hq1⟩:=VD (a:=D4 ((N9 A.p A.q).x*min (max 0 s - A.st) (X1 A.p A.q))) hne0
   obtain ⟨q2,hq2⟩:=VD (a:=D4 ((N9 A.p A.q).y*min (max 0 s - A.st) (X1 A.p A.q))) hne0
   rw [hv,h1,hpl]
   simp only [bne_self_eq_false,bM,lB,hne,g1,g2,g3,Pf o1 o2,vs,← YC,hq1,hq2]
   exact ⟨_,rfl,rfl⟩
  ·have hpl:Ev c= []:=bO hv
   rw [hpl,show (Be c.Pts !=0)=true from bne_iff_ne.2 hv]
   exact ⟨⟨0,0⟩,rfl,rfl⟩
theorem BJ {a b:Int}(hb:0<b)(ha:Ik a):Gb a b=some (a / b):=by
  unfold Gb JO Re
  rw [bO (by omega),bO (by omega)]
  simp only [lB]
  have hle:a.natAbs / b.natAbs≤a.natAbs:=Nat.div_le_self _ _
  have h1:=Int.tmod_lt_of_pos a hb
  have h3:=Int.tdiv_mul_add_tmod a b
  have h4:=Int.ediv_mul_add_emod a b
  have h5:=wP a (show b≠0 by omega)
  have h6:=wQ a hb
  have hq:= @Int.tdiv_eq_ediv a b
  have hm:= @Int.tmod_eq_emod a b
  unfold Ik at ha
  have hab: -9223372036854775808≤a / b∧a / b≤9223372036854775807:=by
    constructor
    ·have:=Int.le_ediv_of_mul_le hb (show -9223372036854775808*b≤a by
       have:=wL (show (1:Int)≤b by omega) (show (0:Int)≤9223372036854775808 by decide);omega)
     exact this
    ·have:=Int.ediv_le_of_le_mul hb (show a≤9223372036854775807*b by
       have:=wL (show (1:Int)≤b by omega) (show (0:Int)≤9223372036854775807 by decide);omega)
     exact this
  by_cases hc:0≤a∨b ∣ a
  ·rw [bN hc,Int.add_zero]at hq
   rw [bN hc,show ((0:Nat):Int)=0 from rfl,Int.sub_zero]at hm
   rw [hq,hm,show decide (a % b<0)=false from bH (by omega),show IntKind.i64.wrap (a / b)=a / b from E6 hab];rfl
  ·rw [bO hc,Int.sign_eq_one_of_pos hb]at hq
   rw [bO hc,Int.natAbs_of_nonneg (by omega)]at hm
   have hneg:a / b<0:=by
     rcases Int.lt_or_le (a / b) 0 with q|q
     ·exact q
     ·have:=wM q (show 0≤b by omega)
      exact absurd (.inl (by omega)) hc
   rw [hq,hm,show decide (a % b - b<0)=true from bG (by omega),show IntKind.i64.wrap (a / b+1)=a / b+1 from E6 (by omega),E6 (by omega)]
   simp only [bK]
   congr 1
   omega
/-- The place of an offset, by the piece in which it lies. -/
theorem VE {c:Curve}(V:Valid c.Pts)(hl:c.Pts.length≤1000000){s:Int}(hs:Ik s): ∃A:At c.Pts (max 0 s),Jl c s=some ⟨A.p.X+ (N9 A.p A.q).x*min (max 0 s - A.st) (X1 A.p A.q) / X1 A.p A.q,A.p.Y+ (N9 A.p A.q).y*min (max 0 s - A.st) (X1 A.p A.q) / X1 A.p A.q⟩:=by
  obtain ⟨x,hy,hA⟩:=NC c hl s hs
  obtain ⟨A,h1,rfl⟩:=hA V
  refine ⟨A,?_⟩
  unfold Jl
  rw [Pg c hl,checkM_zero.2 V]
  simp only [lB,bne_self_eq_false,bM,h1]
  obtain ⟨o1,o2⟩:=iW A V
  have hv:=Qy o1 o2
  have a1:=A.l1
  have a2:=A.l2
  have a3:=A.hs
  have ho:=okS_iff.1 o1
  have ho2:=okS_iff.1 o2
  generalize ht:min (max 0 s - A.st) (X1 A.p A.q)=t
  have ht0:0≤t∧t≤1048576∧t≤X1 A.p A.q:=by omega
  obtain ⟨v1,v2,v3,v4⟩:=hv
  have m1:=DX ⟨v1,v2⟩ (show -1048576≤t∧t≤1048576 by omega)
  have m2:=DX ⟨v3,v4⟩ (show -1048576≤t∧t≤1048576 by omega)
  have hdiv: ∀z, -33554432≤z→z≤33554432→ -33554432≤z*t / X1 A.p A.q∧z*t / X1 A.p A.q≤33554432:=by
    intro z z1 z2
    constructor
    ·refine Int.le_ediv_of_mul_le (by omega) ?_
     have e1:=wL ht0.2.2 (show (0:Int)≤33554432 by decide)
     have e2:=Int.mul_le_mul_of_nonneg_right z1 ht0.1
     omega
    ·refine Int.ediv_le_of_le_mul (by omega) ?_
     have e1:=wL ht0.2.2 (show (0:Int)≤33554432 by decide)
     have e2:=Int.mul_le_mul_of_nonneg_right z2 ht0.1
     omega
  have d1:=hdiv _ v1 v2
  have d2:=hdiv _ v3 v4
  rw [E6 (n:=(N9 A.p A.q).x*t) (by omega),E6 (n:=(N9 A.p A.q).y*t) (by omega),BJ (by omega) (by unfold Ik;omega),lB,BJ (by omega) (by unfold Ik;omega),lB,
   E6 (n:=A.p.X+_) (by omega),E6 (n:=A.p.Y+_) (by omega)]
def Yb (v w:CurveVector):Int:=v.x*w.y - v.y*w.x
def rF (x:Int):Int:=if x>0 then 1 else if x<0 then -1 else 0
theorem dC (x:Int):(0<x∧rF x=1)∨(x<0∧rF x= -1)∨(x=0∧rF x=0):=by
  unfold rF
  split
  ·omega
  ·split<;>omega
theorem iX {v w:CurveVector}(hv:WE v)(hw:WE w): -2251799813685248≤Yb v w∧Yb v w≤2251799813685248∧(-1125899906842624≤v.x*w.y∧v.x*w.y≤1125899906842624)∧ -1125899906842624≤v.y*w.x∧v.y*w.x≤1125899906842624:=by
  obtain ⟨v1,v2,v3,v4⟩:=hv
  obtain ⟨w1,w2,w3,w4⟩:=hw
  have m1:=DX ⟨v1,v2⟩ ⟨w3,w4⟩
  have m2:=DX ⟨v3,v4⟩ ⟨w1,w2⟩
  unfold Yb
  omega
theorem ND {v w:CurveVector}(hv:WE v)(hw:WE w):En v w=some (Yb v w):=by
  have:=iX hv hw
  unfold Yb at this
  unfold En Yb
  rw [E6 (n:=v.x*w.y) (by omega),E6 (n:=v.y*w.x) (by omega),E6 (by omega)]
def DG (p q r:Spot):Int:=cond (Kk p&&Kk q&&Kk r) (rF (Yb (N9 p q) (N9 p r))) 0
theorem Yc (p q r:Spot):DG p q r=1∨DG p q r= -1∨DG p q r=0:=by
  unfold DG
  have:=dC (Yb (N9 p q) (N9 p r))
  cases Kk p&&Kk q&&Kk r
  ·simp
  ·simp only [bK];omega
theorem OZ (p q r:Spot):Lb p q r=some (DG p q r):=by
  unfold Lb DG
  rw [My [p,q,r] (by simp)]
  simp only [List.all_cons,List.all_nil,bQ,lB,Bool.and_assoc]
  cases hp:Kk p
  ·rfl
  cases hq:Kk q
  ·rfl
  cases hr:Kk r
  ·rfl
  simp only [Bool.and_self,bU,bM,bK,Mz hp hq,Mz hp hr,lB,ND (Qy hp hq) (Qy hp hr)]
  unfold Xw rF
  generalize Yb (N9 p q) (N9 p r)=x
  rw [KI,KI]
  split
  ·rfl
  ·split<;>rfl
def YD (p q:Spot):Int:=cond (Kk p&&Kk q) (M8 (N9 p q) (N9 p q)) 0
theorem NE (p q:Spot):Rt p q=some (YD p q):=by
  unfold Rt YD
  rw [My [p,q] (by simp)]
  simp only [List.all_cons,List.all_nil,bQ,lB]
  cases hp:Kk p
  ·rfl
  cases hq:Kk q
  ·rfl
  simp only [Bool.and_self,bU,bM,bK,Mz hp hq,lB,Sz (Qy hp hq) (Qy hp hq)]
def dD (p q r:Spot):Bool:=(((decide (min p.X q.X≤r.X))&& (decide (r.X≤max p.X q.X)))&& (decide (min p.Y q.Y≤r.Y)))&& (decide (r.Y≤max p.Y q.Y))
theorem HV (p q r:Spot):Dw p q r=some (dD p q r):=by unfold Dw dD;simp only [Il,Nb]
def blk (s1 s2 s3 s4:Int)(b1 b2 b3 b4:Bool):Bool:=(decide (s1*s2<0)&&decide (s3*s4<0))||(s1==0&&b1)||(s2==0&&b2)||(s3==0&&b3)||(s4==0&&b4)
def GL (p q r s:Spot):Bool:=(Kk p&&Kk q&&Kk r&&Kk s)&&blk (DG p q r) (DG p q s) (DG r s p) (DG r s q) (dD p q r) (dD p q s) (dD r s p) (dD r s q)
theorem VF {a b:Int}(ha:a=1∨a= -1∨a=0)(hb:b=1∨b= -1∨b=0):D4 (a*b)=a*b:=by
  rcases ha with rfl|rfl|rfl<;>rcases hb with rfl|rfl|rfl<;>exact E6 (by omega)
theorem iY (c z1 z2 z3 z4 b1 b2 b3 b4:Bool):cond c (some true) ((cond z1 (some b1) (some default)).bind fun v6=>((cond ((!(z1&&v6))&&z2) (some b2) (some default))).bind fun v7=>((cond ((!((z1&&v6)||(z2&&v7)))&&z3) (some b3) (some default))).bind fun v8=>((cond ((!(((z1&&v6)||(z2&&v7))||(z3&&v8)))&&z4) (some b4) (some default))).bind fun v9=>some ((((z1&&v6)||(z2&&v7))||(z3&&v8))||(z4&&v9)))=some (c||(z1&&b1)||(z2&&b2)||(z3&&b3)||(z4&&b4)):=by
  cases c<;>cases z1<;>cases b1<;>cases z2<;>cases b2<;>cases z3<;>cases b3<;>cases z4<;>cases b4<;>rfl
theorem Yt (p q r s:Spot):Mb p q r s=some (GL p q r s):=by
  unfold Mb GL blk
  rw [My [p,q,r,s] (by simp)]
  simp only [List.all_cons,List.all_nil,bQ,lB,OZ,HV,VF (Yc p q r) (Yc p q s),VF (Yc r s p) (Yc r s q),iY]
  cases Kk p<;>cases Kk q<;>cases Kk r<;>cases Kk s<;>rfl
def DH (p q:Spot)(n:Int):Bool:=(Kk p&&Kk q)&& (decide (n≥0)&&decide (n≤33554432)&&decide (YD p q≤n*n))
theorem DI (p q:Spot)(n:Int):Qj p q n=some (DH p q n):=by
  unfold Qj DH
  rw [My [p,q] (by simp)]
  simp only [List.all_cons,List.all_nil,bQ,lB,NE]
  cases Kk p&&Kk q
  ·rfl
  by_cases h:n≥0
  case neg=>simp only [h,decide_false];rfl
  by_cases k:n≤33554432
  case neg=>simp only [h,k,decide_false];rfl
  have:=DX (show -33554432≤n∧n≤33554432 by omega) (show -33554432≤n∧n≤33554432 by omega)
  rw [E6 (n:=n*n) (by omega)]
  simp only [h,k,decide_true,Bool.and_self,bK,lB,bP]
theorem aC {v t l:Int}(hl:0<l)(ht:0≤t∧t≤l):min 0 v≤v*t / l∧v*t / l≤max 0 v:=by
  rcases Int.le_total 0 v with q|q
  ·have h1:=wM q ht.1
   have h2:=wL ht.2 q
   have h3:=Int.ediv_nonneg h1 (show 0≤l by omega)
   have h4:=Int.ediv_le_of_le_mul hl h2
   omega
  ·have h1:=wM (show 0≤ -v by omega) ht.1
   have h2:=wL ht.2 (show 0≤ -v by omega)
   rw [Int.neg_mul]at h1 h2
   rw [Int.neg_mul]at h2
   have h3:=Int.le_ediv_of_mul_le hl (show v*l≤v*t by omega)
   have h4:=Int.ediv_le_of_le_mul hl (show v*t≤0*l by omega)
   omega
theorem iZ {p q:Spot}(hp:Kk p=true)(hq:Kk q=true){t l:Int}(hl:0<l)(ht:0≤t∧t≤l):Kk ⟨p.X+ (N9 p q).x*t / l,p.Y+ (N9 p q).y*t / l⟩=true:=by
  have h1:=okS_iff.1 hp
  have h2:=okS_iff.1 hq
  have p1:=aC (v:=(N9 p q).x) hl ht
  have p2:=aC (v:=(N9 p q).y) hl ht
  have x1:(N9 p q).x=q.X - p.X:=rfl
  have x2:(N9 p q).y=q.Y - p.Y:=rfl
  rw [okS_iff]
  dsimp only
  omega
/-! ### Loops that look for the first error -/
def K0 {α β:Type}(g:Nat→α→Option β):Nat→List α→Option β
  |_,[]=>none
  |i,a::r=>match g i a with
   |some e=>some e
   |none=>K0 g (i+1) r
def NF {β:Type}:Option β→Sum Unit β
  |some e=> .inr e
  |none=> .inl ()
theorem As {α β:Type}(l:List α)(F:Int→Option (Stp Int (Sum Unit β)))(g:Nat→α→Option β)(hF: ∀(i:Nat) a,l[i]? =some a→F (i:Int)=some (match g i a with|some e=> .out (.inr e)|none=> .go ((i+1:Nat):Int)))(h0:F (l.length:Int)=some (.out (.inl ()))):
    loop F 0=some (NF (K0 g 0 l)):=by
  have key: ∀(r:List α) (i:Nat),l.drop i=r→i≤l.length→loop F (i:Int)=some (NF (K0 g i r)):=by
    intro r
    induction r with
    |nil=>
     intro i hi hil
     have:i=l.length:=by have:=List.drop_eq_nil_iff.1 hi;omega
     subst this
     exact D2 h0
    |cons a r ih=>
     intro i hi hil
     have hlt:i<l.length:=by
       rcases Nat.lt_or_ge i l.length with q|q
       ·exact q
       ·rw [List.drop_eq_nil_of_le q]at hi;cases hi
     have ha:l[i]? =some a:=by have:=congrArg (fun z=>z[0]?) hi;simpa using this
     have hr:l.drop (i+1)=r:=by have:=congrArg (fun z=>z.drop 1) hi;simpa using this
     have hs:=hF i a ha
     unfold K0
     cases hg:g i a with
     |some e=>rw [hg]at hs;exact D2 hs
     |none=>rw [hg]at hs;rw [H8 hs];exact ih (i+1) hr (by omega)
  have:=key l 0 rfl (by omega)
  exact this
theorem firstE_none {α β:Type}{g:Nat→α→Option β}: ∀{l:List α} {i:Nat},K0 g i l=none↔∀(j:Nat) a,l[j]? =some a→g (i+j) a=none
  | [],i=>by simp [K0]
  |a::r,i=>by
   unfold K0
   cases h:g i a with
   |some e=>
    constructor
    ·intro h';cases h'
    ·intro h';have:=h' 0 a rfl;rw [Nat.add_zero,h]at this;cases this
   |none=>
    dsimp only
    rw [firstE_none (l:=r)]
    constructor
    ·intro h' j b hj
     cases j with
     |zero=>cases hj;exact h
     |succ j=>have:=h' j b hj;rwa [show i+1+j=i+ (j+1) by omega]at this
    ·intro h' j b hj
     have:=h' (j+1) b hj
     rwa [show i+ (j+1)=i+1+j by omega]at this
/-! ### Numbers -/
def Wf (n a b:Int):Bool:=decide (a≤n)&&decide (n≤b)
theorem Ql (n a b:Int):Bu n a b=some (Wf n a b):=rfl
theorem Un (n a b:Int):Dn n a b=some (Wf n a b):=rfl
def Hp (kind:Int):Int×Int×Int:=if kind=1 then (2000,30,90)else if kind=2 then (1000,20,60)else if kind=3 then (300,100,300)else (0,0,0)
theorem HW (k:Int):Fl k=some (Hp k):=by
  unfold Fl Hp
  by_cases h:k<0∨k≥4
  ·rw [show ((decide (k<0))||(decide (k≥4)))=true by simpa using h,bK,bO (by omega),bO (by omega),bO (by omega)]
  ·rw [show ((decide (k<0))||(decide (k≥4)))=false by rw [bX];simpa using h,bM]
   obtain ⟨h1,h2⟩:=not_or.1 h
   rcases (show k=0∨k=1∨k=2∨k=3 by omega)with rfl|rfl|rfl|rfl<;>rfl
theorem Yd (k:Int):Fv k=some (Hp k):=by
  unfold Fv Hp
  by_cases h1:k=1
  ·subst h1;rfl
  ·by_cases h2:k=2
   ·subst h2;rfl
   ·by_cases h3:k=3
    ·subst h3;rfl
    ·rw [bO h1,bO h2,bO h3]
     rw [show (k==1)=false by simpa using h1,show (k==2)=false by simpa using h2,show (k==3)=false by simpa using h3];rfl
theorem SY {n:Int}(h: -9223372036854775808≤n∧n≤9223372036854775807):D4 n=n:=Go.IntWalk.i64_in n h
theorem C9 {α:Type}{l:List α}{i:Nat}{a:α}(h:l[i]? =some a):C3 l (i:Int)=some a:=by
  unfold C3;rw [bN (by omega),wD];exact h
theorem J1 {α:Type}{l:List α}{i:Nat}{a:α}(h:l[i]? =some a):i<l.length:=(lI.1 h).1
theorem KM {α:Type}(c:Bool)(a b:α):cond c (some a) (some b)=some (cond c a b):=by cases c<;>rfl
def Cq (high:Int):Int→List Int→Bool
  |_,[]=>true
  |low,n::r=>decide (low≤n)&&decide (n<high)&&Cq high (n+1) r
theorem HX (l:List Int)(low high:Int)(hl:l.length≤1000000)(hh:high≤1000000000)(h0:0≤low):Bv l low high=some (Cq high low l):=by
  have key: ∀(r:List Int) (i:Nat) (lo:Int),0≤lo→l.drop i=r→i≤l.length→loop (Cx l high) (lo,(i:Int))=some (if Cq high lo r then .inl ()else .inr false):=by
    intro r
    induction r with
    |nil=>
     intro i lo _ hi hil
     have:=N0 hi
     refine D2 ?_
     unfold Cx
     dsimp only
     rw [show decide ((i:Int)< (l.length:Int))=false from bH (by omega)];rfl
    |cons n r ih=>
     intro i lo hlo hi hil
     have hlt:=L3 hi
     have hs:Cx l high (lo,(i:Int))=some (if decide (lo≤n)&&decide (n<high)then .go (n+1,((i+1:Nat):Int))else .out (.inr false)):=by
       unfold Cx
       dsimp only
       rw [show decide ((i:Int)< (l.length:Int))=true from bG (by omega),Y2 hi,bK,lB,SY (n:=(i:Int)+1) (by omega)]
       by_cases q:lo≤n∧n<high
       ·rw [show ((decide (n<lo))||(decide (n≥high)))=false by rw [bX];simp;omega,bM,SY (n:=n+1) (by omega),bN (by simpa using q)];rfl
       ·rw [show ((decide (n<lo))||(decide (n≥high)))=true by simp;omega,bK,bO (by simpa using q)]
     unfold Cq
     cases q:(decide (lo≤n)&&decide (n<high))
     ·rw [q]at hs;rw [D2 hs];rfl
     ·rw [q]at hs
      simp only [bS,bI]at q
      rw [H8 hs,ih (i+1) (n+1) (by omega) (I4 hi) (by omega)];rfl
  unfold Bv
  have:=key l 0 low h0 rfl (by omega)
  rw [show ((0:Nat):Int)=0 from rfl]at this
  rw [this]
  cases Cq high low l<;>rfl
theorem EJ (l:List Int)(low high:Int)(hl:l.length≤1000000):Gh l low high=some (Cq high low l):=by
  have key: ∀(r:List Int) (i:Nat) (lo:Int),low≤lo→(i=0→lo=low)→(0<i→l[i - 1]? =some (lo - 1))→l.drop i=r→i≤l.length→loop (Bn l low high) (i:Int)=some (if Cq high lo r then .inl ()else .inr false):=by
    intro r
    induction r with
    |nil=>
     intro i lo _ _ _ hi hil
     have:=N0 hi
     refine D2 ?_
     unfold Bn
     rw [show decide ((i:Int)< (l.length:Int))=false from bH (by omega)];rfl
    |cons n r ih=>
     intro i lo hlo h0 h1 hi hil
     have hlt:=L3 hi
     have hn:l[i]? =some n:=by have:=congrArg (fun z=>z[0]?) hi;simpa using this
     have hs:Bn l low high (i:Int)=some (if decide (lo≤n)&&decide (n<high)then .go ((i+1:Nat):Int)else .out (.inr false)):=by
       unfold Bn
       rw [show decide ((i:Int)< (l.length:Int))=true from bG (by omega),Y2 hi,bK,lB,KM,lB,KM,lB,SY (n:=(i:Int)+1) (by omega)]
       by_cases q1:n<low
       ·rw [bG q1,bO (by simp;omega)];rfl
       ·rw [bH q1]
        simp only [bV,bK,bW]
        by_cases q2:n≥high
        ·rw [bG q2,bO (by simp;omega)];rfl
        ·rw [bH q2]
         simp only [bV,bP,bW]
         by_cases q3:(i:Int)>0
         ·have e:C3 l (D4 ((i:Int) - 1))=some (lo - 1):=by
            rw [SY (n:=(i:Int) - 1) (by omega),show (i:Int) - 1=((i - 1:Nat):Int) by omega]
            exact C9 (h1 (by omega))
          rw [bG q3,bK,bK,e,lB,bP]
          by_cases q4:n≤lo - 1
          ·rw [bG q4,bO (by simp;omega)];rfl
          ·rw [bH q4,bN (by simp;omega)];rfl
         ·have:lo=low:=h0 (by omega)
          rw [bH q3,bM,lB,bR,bN (by simp;omega)];rfl
     unfold Cq
     cases q:(decide (lo≤n)&&decide (n<high))
     ·rw [q]at hs;rw [D2 hs];rfl
     ·rw [q]at hs
      simp only [bS,bI]at q
      rw [H8 hs,ih (i+1) (n+1) (by omega) (fun z=>by omega) (fun _=>by rw [Nat.add_sub_cancel,hn];congr 1;omega) (I4 hi) (by omega)];rfl
  unfold Gh
  have:=key l 0 low (Int.le_refl _) (fun _=>rfl) (fun z=>by omega) rfl (by omega)
  rw [show ((0:Nat):Int)=0 from rfl]at this
  rw [this]
  cases Cq high low l<;>rfl
noncomputable def Ta (c:Curve):Int:=Xz 0 (Ev c)
theorem nT {m:Map}{i:Nat}{l:Lane}(h:m.Lanes[i]? =some l)(hl:l.Curve_.Pts.length≤1000000):Cz m (i:Int)=some (Ta l.Curve_):=by
  unfold Cz
  rw [C9 h,lB,Yr _ hl];rfl
/-- The lists of a map are of bearable lengths. -/
structure Bear (m:Map):Prop where
  lanes:m.Lanes.length≤1000000
  pts: ∀l∈m.Lanes,l.Curve_.Pts.length≤1000000∧l.Next.length≤1000000
noncomputable def laneE (n:Nat)(i:Nat)(l:Lane):Option Int:=
  if (Hp l.Kind).1=0 then some 4
  else if Be l.Curve_.Pts≠0 then some (Be l.Curve_.Pts)
  else if (Wf l.Half 200 4000&&Wf l.Limit 1 (Hp l.Kind).1)=false then some 2
  else if 3<l.Next.length then some 8
  else if Cq n (i+1) l.Next=false then some 11 else none
theorem jA {m:Map}(B:Bear m):V2 ⟨m⟩=some ((K0 (laneE m.Lanes.length) 0 m.Lanes).getD 0):=by
  have h:=As m.Lanes (R0 ⟨m⟩) (laneE m.Lanes.length) (fun i l hl=>by
    have hi:=J1 hl
    have hb:=B.lanes
    obtain ⟨p1,p2⟩:=B.pts l (lG hl)
    unfold R0 laneE
    dsimp only
    rw [show decide ((i:Int)< (m.Lanes.length:Int))=true from bG (by omega),C9 hl,bK,lB,HW,lB,Pg _ p1,lB,Ql,Ql,lB,KM,lB,SY (n:=(i:Int)+1) (by omega),HX _ _ _ p2 (by omega) (by omega),lB]
    by_cases h1:(Hp l.Kind).1=0
    ·rw [bN h1,show ((Hp l.Kind).1==0)=true by simpa using h1];rfl
    ·rw [bO h1,show ((Hp l.Kind).1==0)=false by simpa using h1,bM]
     by_cases h2:Be l.Curve_.Pts≠0
     ·rw [bN h2,show (Be l.Curve_.Pts !=0)=true by simpa using h2];rfl
     ·rw [bO h2,show (Be l.Curve_.Pts !=0)=false by simpa using h2,bM]
      cases Wf l.Half 200 4000
      ·rfl
      ·cases Wf l.Limit 1 (Hp l.Kind).1
       ·rfl
       ·simp only [bU,bV,bK,bM,bW,Bool.and_self]
        rw [bO (by decide)]
        by_cases h3:3<l.Next.length
        ·rw [bN h3,show decide ((l.Next.length:Int)>3)=true from bG (by omega)];rfl
        ·rw [bO h3,show decide ((l.Next.length:Int)>3)=false from bH (by omega),bM]
         cases Cq (m.Lanes.length:Int) ((i:Int)+1) l.Next<;>rfl) (by
    unfold R0
    dsimp only
    rw [show decide ((m.Lanes.length:Int)< (m.Lanes.length:Int))=false from bH (by omega)];rfl)
  unfold V2
  rw [h]
  cases K0 (laneE m.Lanes.length) 0 m.Lanes<;>rfl
theorem jB (k:Int):((decide (k<1))||(decide (k>3)))=decide ((Hp k).1=0):=by
  unfold Hp
  by_cases h1:k=1
  ·subst h1;rfl
  ·by_cases h2:k=2
   ·subst h2;rfl
   ·by_cases h3:k=3
    ·subst h3;rfl
    ·rw [bO h1,bO h2,bO h3]
     simp only [decide_true,bT,bI]
     omega
theorem jC {m:Map}(B:Bear m){i:Nat}{l:Lane}(hl:m.Lanes[i]? =some l):Jg m (i:Int)=some ((laneE m.Lanes.length i l).getD 0):=by
  have hi:=J1 hl
  have hb:=B.lanes
  obtain ⟨p1,p2⟩:=B.pts l (lG hl)
  unfold Jg laneE
  rw [C9 hl,lB,jB,BH _ p1,lB,Yd,lB,Un,Un,lB,KM,lB,SY (n:=(i:Int)+1) (by omega),EJ _ _ _ p2,lB]
  by_cases h1:(Hp l.Kind).1=0
  ·rw [bN h1,bG h1];rfl
  ·rw [bO h1,bH h1,bM]
   by_cases h2:Be l.Curve_.Pts≠0
   ·rw [bN h2,show (Be l.Curve_.Pts !=0)=true by simpa using h2];rfl
   ·rw [bO h2,show (Be l.Curve_.Pts !=0)=false by simpa using h2,bM]
    cases Wf l.Half 200 4000
    ·rfl
    ·cases Wf l.Limit 1 (Hp l.Kind).1
     ·rfl
     ·simp only [bU,bV,bK,bM,bW,Bool.and_self]
      rw [bO (by decide)]
      by_cases h3:3<l.Next.length
      ·rw [bN h3,show decide ((l.Next.length:Int)>3)=true from bG (by omega)];rfl
      ·rw [bO h3,show decide ((l.Next.length:Int)>3)=false from bH (by omega),bM]
       cases Cq (m.Lanes.length:Int) ((i:Int)+1) l.Next<;>rfl
theorem NG {n i:Nat}{l:Lane}{e:Int}(h:laneE n i l=some e):e≠0:=by
  unfold laneE at h
  split at h
  ·cases h;decide
  ·split at h
   ·rename_i h2;cases h;exact h2
   ·split at h
    ·cases h;decide
    ·split at h
     ·cases h;decide
     ·split at h
      ·cases h;decide
      ·cases h
theorem VG {m:Map}(B:Bear m):loop (El m) 0=some (NF (K0 (laneE m.Lanes.length) 0 m.Lanes)):=
  As m.Lanes (El m) (laneE m.Lanes.length) (fun i l hl=>by
   have hi:=J1 hl
   have hb:=B.lanes
   unfold El
   rw [show decide ((i:Int)< (m.Lanes.length:Int))=true from bG (by omega),jC B hl,bK,lB,SY (n:=(i:Int)+1) (by omega)]
   cases h:laneE m.Lanes.length i l with
   |none=>rfl
   |some e=>
    rw [Option.getD_some,show (e !=0)=true by simpa using NG h];rfl) (by
   unfold El
   rw [show decide ((m.Lanes.length:Int)< (m.Lanes.length:Int))=false from bH (by omega)];rfl)
theorem Mc {high:Int}: ∀{l:List Int} {low:Int},Cq high low l=true→∀k∈l,low≤k∧k<high
  | [],_,_,k,hk=>by cases hk
  |n::r,low,h,k,hk=>by
   unfold Cq at h
   simp only [bS,bI]at h
   rcases lU.1 hk with rfl|hk
   ·exact h.1
   ·have:=Mc h.2 k hk
    omega
/-- What a lane is that has no error of its own. -/
structure LaneOK (n i:Nat)(l:Lane):Prop where
  kind:(Hp l.Kind).1≠0
  curve:Be l.Curve_.Pts=0
  half:Wf l.Half 200 4000=true
  limit:Wf l.Limit 1 (Hp l.Kind).1=true
  few:l.Next.length≤3
  next:Cq n (i+1) l.Next=true
theorem YE {n i:Nat}{l:Lane}(h:laneE n i l=none):LaneOK n i l:=by
  unfold laneE at h
  split at h
  ·cases h
  ·rename_i h1
   split at h
   ·cases h
   ·rename_i h2
    split at h
    ·cases h
    ·rename_i h3
     split at h
     ·cases h
     ·rename_i h4
      split at h
      ·cases h
      ·rename_i h5
       simp only [Bool.not_eq_false,bS]at h3
       exact ⟨h1,Decidable.not_not.1 h2,h3.1,h3.2,by omega,by simpa using h5⟩
theorem BK {m:Map}(h:K0 (laneE m.Lanes.length) 0 m.Lanes=none){i:Nat}{l:Lane}(hl:m.Lanes[i]? =some l):LaneOK m.Lanes.length i l:=by
  have:=firstE_none.1 h i l hl
  rw [wI]at this
  exact YE this
theorem HY {l:List Spot}(h:Be l=0):2≤l.length:=by
  unfold Be at h
  split at h
  ·cases h
  ·omega
def DJ (l:List Spot):Spot:=l.headD ⟨0,0⟩
def Yu (l:List Spot):Spot:=l.getLastD ⟨0,0⟩
theorem QB {l:List Spot}(h:2≤l.length):C3 l 0=some (DJ l):=by
  cases l with
  |nil=>simp at h
  |cons a r=>rfl
theorem QC {l:List Spot}(h:2≤l.length)(hl:l.length≤1000000):C3 l (D4 ((l.length:Int) - 1))=some (Yu l):=by
  rw [SY (by omega),show (l.length:Int) - 1=((l.length - 1:Nat):Int) by omega]
  refine C9 ?_
  unfold Yu
  rw [List.getLastD_eq_getLast?,List.getLast?_eq_getElem?]
  rw [lH (by omega)];rfl
def VH (a b:Spot):Bool:=a.X==b.X&& (a.Y==b.Y&&true)
def BL (m:Map)(l:Lane)(_:Nat)(k:Int):Option Int:=
  match m.Lanes[k.toNat]? with
  |some n=>if n.Kind≠l.Kind then some 4 else if VH (DJ n.Curve_.Pts) (Yu l.Curve_.Pts)=false then some 3 else none
  |none=>none
def nextE (m:Map)(_:Nat)(l:Lane):Option Int:=K0 (BL m l) 0 l.Next
theorem NH {m:Map}(B:Bear m)(H:K0 (laneE m.Lanes.length) 0 m.Lanes=none){i:Nat}{l:Lane}(hl:m.Lanes[i]? =some l){j:Nat}{k:Int}(hk:l.Next[j]? =some k):
    ∃n,C3 m.Lanes k=some n∧m.Lanes[k.toNat]? =some n∧2≤n.Curve_.Pts.length∧n.Curve_.Pts.length≤1000000:=by
  have L:=BK H hl
  have hb:=Mc L.next k (lG hk)
  have hlt:k.toNat<m.Lanes.length:=by omega
  refine ⟨m.Lanes[k.toNat],?_,lH hlt,HY (BK H (lH hlt)).curve,(B.pts _ (List.getElem_mem hlt)).1⟩
  unfold C3
  rw [bN (by omega),lH hlt]
theorem dE {m:Map}{l:Lane}{j:Nat}{k e:Int}(h:BL m l j k=some e):e≠0:=by
  unfold BL at h
  split at h
  ·split at h
   ·cases h;decide
   ·split at h
    ·cases h;decide
    ·cases h
  ·cases h
theorem QD {m:Map}(B:Bear m)(H:K0 (laneE m.Lanes.length) 0 m.Lanes=none){i:Nat}{l:Lane}(hl:m.Lanes[i]? =some l):
    loop (Y3 ⟨m⟩ l (Yu l.Curve_.Pts)) 0=some (NF (nextE m i l))∧loop (Bo m l) 0=some (NF (nextE m i l)):=by
  have L:=BK H hl
  obtain ⟨p1,p2⟩:=B.pts l (lG hl)
  constructor
  ·refine As l.Next _ (BL m l) (fun j k hk=> ?_) ?_
   ·have hj:=J1 hk
    obtain ⟨n,g1,g2,g3,g4⟩:=NH B H hl hk
    unfold Y3 BL
    dsimp only
    rw [show decide ((j:Int)< (l.Next.length:Int))=true from bG (by omega),C9 hk,bK,lB,g1,lB,lB,QB g3,lB,SY (n:=(j:Int)+1) (by omega),g2]
    dsimp only
    rw [show ((DJ n.Curve_.Pts).X==(Yu l.Curve_.Pts).X&& ((DJ n.Curve_.Pts).Y==(Yu l.Curve_.Pts).Y&&true))=VH (DJ n.Curve_.Pts) (Yu l.Curve_.Pts) from rfl]
    by_cases h1:n.Kind≠l.Kind
    ·rw [bN h1,show (n.Kind !=l.Kind)=true by simpa using h1];rfl
    ·rw [bO h1,show (n.Kind !=l.Kind)=false by simpa using h1]
     cases VH (DJ n.Curve_.Pts) (Yu l.Curve_.Pts)<;>rfl
   ·unfold Y3
    rw [show decide ((l.Next.length:Int)< (l.Next.length:Int))=false from bH (by omega)];rfl
  ·refine As l.Next _ (BL m l) (fun j k hk=> ?_) ?_
   ·have hj:=J1 hk
    obtain ⟨n,g1,g2,g3,g4⟩:=NH B H hl hk
    unfold Bo BL
    rw [show decide ((j:Int)< (l.Next.length:Int))=true from bG (by omega),C9 hk,bK,lB,g1,lB,QB g3,lB,QC (HY L.curve) p1,lB,SY (n:=(j:Int)+1) (by omega),g2]
    dsimp only
    rw [show ((DJ n.Curve_.Pts).X==(Yu l.Curve_.Pts).X&& ((DJ n.Curve_.Pts).Y==(Yu l.Curve_.Pts).Y&&true))=VH (DJ n.Curve_.Pts) (Yu l.Curve_.Pts) from rfl]
    by_cases h1:n.Kind≠l.Kind
    ·rw [bN h1,show (n.Kind !=l.Kind)=true by simpa using h1];rfl
    ·rw [bO h1,show (n.Kind !=l.Kind)=false by simpa using h1]
     cases VH (DJ n.Curve_.Pts) (Yu l.Curve_.Pts)<;>rfl
   ·unfold Bo
    rw [show decide ((l.Next.length:Int)< (l.Next.length:Int))=false from bH (by omega)];rfl
theorem QE {m:Map}(B:Bear m)(H:K0 (laneE m.Lanes.length) 0 m.Lanes=none):
    U5 ⟨m⟩=some ((K0 (nextE m) 0 m.Lanes).getD 0)∧Jh m=some ((K0 (nextE m) 0 m.Lanes).getD 0):=by
  have hb:=B.lanes
  constructor
  ·have h:=As m.Lanes (P6 ⟨m⟩) (nextE m) (fun i l hl=>by
     have hi:=J1 hl
     have L:=BK H hl
     obtain ⟨p1,p2⟩:=B.pts l (lG hl)
     unfold P6
     dsimp only
     rw [show decide ((i:Int)< (m.Lanes.length:Int))=true from bG (by omega),C9 hl,bK,lB,QC (HY L.curve) p1,lB,(QD B H hl).1,SY (n:=(i:Int)+1) (by omega)]
     cases nextE m i l<;>rfl) (by
     unfold P6
     dsimp only
     rw [show decide ((m.Lanes.length:Int)< (m.Lanes.length:Int))=false from bH (by omega)];rfl)
   unfold U5
   rw [h]
   cases K0 (nextE m) 0 m.Lanes<;>rfl
  ·have h:=As m.Lanes (Bp m) (nextE m) (fun i l hl=>by
     have hi:=J1 hl
     unfold Bp
     rw [show decide ((i:Int)< (m.Lanes.length:Int))=true from bG (by omega),C9 hl,bK,lB,(QD B H hl).2,SY (n:=(i:Int)+1) (by omega)]
     cases nextE m i l<;>rfl) (by
     unfold Bp
     rw [show decide ((m.Lanes.length:Int)< (m.Lanes.length:Int))=false from bH (by omega)];rfl)
   unfold Jh
   rw [h]
   cases K0 (nextE m) 0 m.Lanes<;>rfl
/-- The place of the first element with a property. -/
theorem NI {α:Type}{f:Int→Option (Stp Int (Sum Unit Int))}(l:List α)(P:α→Bool)(hl:l.length≤1000000000)(hf: ∀(i:Nat) a,l[i]? =some a→f (i:Int)=some (if P a then .out (.inr (i:Int))else .go (D4 ((i:Int)+1))))(he:f (l.length:Int)=some (.out (.inl ()))):
    loop f 0=some (match l.findIdx? P with|some i=> .inr (i:Int)|none=> .inl ()):=by
  have key: ∀(r:List α) (i:Nat),l.drop i=r→i≤l.length→loop f (i:Int)=some (match r.findIdx? P with|some j=> .inr ((i+j:Nat):Int)|none=> .inl ()):=by
    intro r
    induction r with
    |nil=>
     intro i hi hil
     have:=N0 hi
     obtain rfl:i=l.length:=by omega
     rw [D2 he];rfl
    |cons a r ih=>
     intro i hi _
     have hlt:=L3 hi
     have h0:l[i]? =some a:=by have:=congrArg (fun z=>z[0]?) hi;simpa using this
     have hs:=hf i a h0
     rw [List.findIdx?_cons]
     by_cases hp:P a=true
     ·rw [bN hp]at hs
      rw [D2 hs,bN hp];simp
     ·rw [bO hp]at hs
      rw [E6 (by omega)]at hs
      rw [H8 hs,show ((i:Int)+1)=((i+1:Nat):Int) by omega,ih (i+1) (I4 hi) (by omega),bO hp]
      cases r.findIdx? P with
      |none=>rfl
      |some j=>simp only [lF];congr 3;omega
  have:=key l 0 rfl (by omega)
  rw [show ((0:Nat):Int)=0 from rfl]at this
  rw [this]
  cases l.findIdx? P<;>simp
/-- -1, or the place. -/
def HZ {α:Type}(P:α→Bool)(l:List α):Int:=match l.findIdx? P with|some i=>(i:Int)|none=> -1
theorem Wt {α:Type}(P:α→Bool)(l:List α):decide (HZ P l≥0)=l.any P:=by
  unfold HZ
  cases h:l.findIdx? P with
  |none=>
   have:=List.findIdx?_eq_none_iff.1 h
   rw [show l.any P=false by rw [List.any_eq_false];intro x hx;simpa using this x hx]
   decide
  |some i=>
   have:=List.findIdx?_isSome (xs:=l) (p:=P)
   rw [h]at this
   rw [← this]
   simp
/-- What both twins compute of a list. -/
theorem Uo {α:Type}{f:Int→Option (Stp Int (Sum Unit Int))}(l:List α)(P:α→Bool)(hl:l.length≤1000000000)(hf: ∀(i:Nat) a,l[i]? =some a→f (i:Int)=some (if P a then .out (.inr (i:Int))else .go (D4 ((i:Int)+1))))(he:f (l.length:Int)=some (.out (.inl ()))):
    thenS (loop f 0) (fun _=>some (-1)) (fun r=>some r)=some (HZ P l):=by
  rw [NI l P hl hf he]
  unfold HZ
  cases l.findIdx? P<;>rfl
theorem dF (l:List Phase)(hl:l.length≤1000000):F3 l=some (l.any fun p=> !Wf p.Ticks 1 10000):=by
  unfold F3 G7
  rw [Uo l (fun p=> !Wf p.Ticks 1 10000) (by omega) (fun i a h=>by
   have:=J1 h
   unfold K1 Eu
   rw [show decide ((i:Int)< (l.length:Int))=true from bG (by omega),C9 h,bK,lB,Ql,lB,lB]
   cases Wf a.Ticks 1 10000<;>rfl) (by
   unfold K1
   simp)]
  rw [lB,Wt]
theorem YF (m:Map)(l:List Phase)(hl:l.length≤1000000)(hm:m.Lanes.length≤1000000)(hg: ∀p∈l,p.Green.length≤1000000):F2 l ⟨m⟩=some (l.any fun p=> !Cq m.Lanes.length 0 p.Green):=by
  unfold F2 G5
  rw [Uo l (fun p=> !Cq m.Lanes.length 0 p.Green) (by omega) (fun i a h=>by
   have:=J1 h
   unfold F1 T5
   dsimp only
   rw [show decide ((i:Int)< (l.length:Int))=true from bG (by omega),C9 h,bK,lB,HX _ _ _ (hg a (lG h)) (by omega) (by omega),lB,lB]
   cases Cq (m.Lanes.length:Int) 0 a.Green<;>rfl) (by
   unfold F1
   simp)]
  rw [lB,Wt]
structure BearS (m:Map):Prop where
  many:m.Signals.length≤1000000
  phases: ∀s∈m.Signals,s.Phases.length≤1000000∧∀p∈s.Phases,p.Green.length≤1000000
def signalE (m:Map)(_:Nat)(s:Signal):Option Int:=
  if s.Phases.length=0 then some 6
  else if 6<s.Phases.length then some 8
  else if Wf s.Offset 0 1099511627776=false then some 2
  else if (s.Phases.any fun p=> !Wf p.Ticks 1 10000)=true then some 2
  else if (s.Phases.any fun p=> !Cq m.Lanes.length 0 p.Green)=true then some 11 else none
theorem YG {m:Map}(B:Bear m)(S:BearS m):T3 ⟨m⟩=some ((K0 (signalE m) 0 m.Signals).getD 0):=by
  have h:=As m.Signals (O8 ⟨m⟩) (signalE m) (fun i s hs=>by
    have hi:=J1 hs
    have hb:=S.many
    obtain ⟨p1,p2⟩:=S.phases s (lG hs)
    unfold O8 signalE
    dsimp only
    rw [show decide ((i:Int)< (m.Signals.length:Int))=true from bG (by omega),C9 hs,bK,lB,Ql,lB,dF _ p1,lB,YF m _ p1 B.lanes p2,lB,SY (n:=(i:Int)+1) (by omega)]
    by_cases h1:s.Phases.length=0
    ·rw [bN h1,h1];rfl
    ·rw [bO h1,show ((s.Phases.length:Int)==0)=false by simp only [beq_eq_false_iff_ne];omega,bM]
     by_cases h2:6<s.Phases.length
     ·rw [bN h2,show decide ((s.Phases.length:Int)>6)=true from bG (by omega)];rfl
     ·rw [bO h2,show decide ((s.Phases.length:Int)>6)=false from bH (by omega),bM]
      cases Wf s.Offset 0 1099511627776
      ·rfl
      ·cases (s.Phases.any fun p=> !Wf p.Ticks 1 10000)
       ·cases (s.Phases.any fun p=> !Cq m.Lanes.length 0 p.Green)<;>rfl
       ·rfl) (by
    unfold O8
    dsimp only
    rw [show decide ((m.Signals.length:Int)< (m.Signals.length:Int))=false from bH (by omega)];rfl)
  unfold T3
  rw [h]
  cases K0 (signalE m) 0 m.Signals<;>rfl
theorem VI (s:Signal)(hl:s.Phases.length≤1000000): ∀(r:List Phase) (i:Nat) (b:Bool),s.Phases.drop i=r→i≤s.Phases.length→loop (W6 s) (b,(i:Int))=some (b&& !(r.any fun p=> !Wf p.Ticks 1 10000)):=by
  intro r
  induction r with
  |nil=>
   intro i b hi hil
   have:=N0 hi
   refine D2 ?_
   unfold W6
   dsimp only
   rw [show decide ((i:Int)< (s.Phases.length:Int))=false from bH (by omega)]
   simp
  |cons p r ih=>
   intro i b hi hil
   have hlt:=L3 hi
   have hs:W6 s (b,(i:Int))=some (.go (b&&Wf p.Ticks 1 10000,((i+1:Nat):Int))):=by
     unfold W6
     dsimp only
     rw [show decide ((i:Int)< (s.Phases.length:Int))=true from bG (by omega),Y2 hi,SY (n:=(i:Int)+1) (by omega)]
     cases b<;>rfl
   rw [H8 hs,ih (i+1) _ (I4 hi) (by omega),List.any_cons]
   cases b<;>cases Wf p.Ticks 1 10000<;>simp
theorem SM (m:Map)(s:Signal)(hl:s.Phases.length≤1000000)(hg: ∀p∈s.Phases,p.Green.length≤1000000):loop (W5 m s) 0=some (if (s.Phases.any fun p=> !Cq m.Lanes.length 0 p.Green)=true then .inr 11 else .inl ()):=by
  have h:=As s.Phases (W5 m s) (fun _ p=>if Cq m.Lanes.length 0 p.Green then none else some 11) (fun i p hp=>by
    have:=J1 hp
    unfold W5
    rw [show decide ((i:Int)< (s.Phases.length:Int))=true from bG (by omega),C9 hp,bK,lB,EJ _ _ _ (hg p (lG hp)),lB,SY (n:=(i:Int)+1) (by omega)]
    cases Cq (m.Lanes.length:Int) 0 p.Green<;>rfl) (by
    unfold W5
    rw [show decide ((s.Phases.length:Int)< (s.Phases.length:Int))=false from bH (by omega)];rfl)
  rw [h]
  have key: ∀(l:List Phase) (i:Nat),NF (K0 (fun (_:Nat) (p:Phase)=>if Cq (m.Lanes.length:Int) 0 p.Green=true then none else some (11:Int)) i l)=if (l.any fun p=> !Cq m.Lanes.length 0 p.Green)=true then .inr 11 else .inl ():=by
    intro l
    induction l with
    |nil=>intro i;rfl
    |cons p r ih=>
     intro i
     unfold K0
     rw [List.any_cons]
     cases hq:Cq (m.Lanes.length:Int) 0 p.Green
     ·rfl
     ·exact ih (i+1)
  rw [key]
end Go.Abs.World
/-! Loops over lists, as functions on lists. -/
namespace Go.Abs
open Go
section
variable {α β σ S τ:Type}
/-- What a loop over a list makes, with a state, and with a way out. -/
def NJ (step:Nat→σ→α→Sum σ τ)(fin:σ→τ):Nat→σ→List α→τ
  |_,s,[]=>fin s
  |i,s,a::r=>match step i s a with
   | .inl s'=>NJ step fin (i+1) s' r
   | .inr t=>t
theorem S6 {l:List α}{i:Nat}{a:α}{r:List α}(h:l.drop i=a::r):l[i]? =some a:=by
  have:=congrArg (fun z=>z[0]?) h
  simpa using this
theorem pL {F:S→Option (Stp S τ)}(pk:Nat→σ→S)(l:List α)(inv:Nat→σ→Prop)(step:Nat→σ→α→Sum σ τ)(fin:σ→τ){s0:σ}{S0:S}(hS:pk 0 s0=S0)(hi:inv 0 s0)
    (hF: ∀i a s,l[i]? =some a→inv i s→F (pk i s)=some (match step i s a with| .inl s'=> .go (pk (i+1) s')| .inr t=> .out t))
    (hI: ∀i a s s',l[i]? =some a→inv i s→step i s a= .inl s'→inv (i+1) s')
    (h0: ∀s,inv l.length s→F (pk l.length s)=some (.out (fin s))):loop F S0=some (NJ step fin 0 s0 l):=by
  have key: ∀(r:List α) (i:Nat) (s:σ),l.drop i=r→i≤l.length→inv i s→loop F (pk i s)=some (NJ step fin i s r):=by
    intro r
    induction r with
    |nil=>
     intro i s hi hil hv
     have:=N0 hi
     obtain rfl:i=l.length:=by omega
     exact D2 (h0 s hv)
    |cons a r ih=>
     intro i s hi hil hv
     have hlt:=L3 hi
     have ha:=S6 hi
     have hs:=hF i a s ha hv
     unfold NJ
     cases h:step i s a with
     |inl s'=>rw [h]at hs;rw [H8 hs];exact ih (i+1) s' (I4 hi) (by omega) (hI i a s s' ha hv h)
     |inr t=>rw [h]at hs;exact D2 hs
  rw [← hS]
  exact key l 0 s0 rfl (by omega) hi
/-- The same without a way out. -/
def Yv (step:Nat→σ→α→σ):Nat→σ→List α→σ
  |_,s,[]=>s
  |i,s,a::r=>Yv step (i+1) (step i s a) r
theorem IY (step:Nat→σ→α→σ)(fin:σ→τ): ∀(l:List α) (i:Nat) (s:σ),NJ (fun i s a=> .inl (step i s a)) fin i s l=fin (Yv step i s l)
  | [],_,_=>rfl
  |_::r,i,_=>IY step fin r (i+1) _
theorem aD {F:S→Option (Stp S τ)}(pk:Nat→σ→S)(l:List α)(inv:Nat→σ→Prop)(step:Nat→σ→α→σ)(fin:σ→τ){s0:σ}{S0:S}(hS:pk 0 s0=S0)(hi:inv 0 s0)
    (hF: ∀i a s,l[i]? =some a→inv i s→F (pk i s)=some (.go (pk (i+1) (step i s a))))
    (hI: ∀i a s,l[i]? =some a→inv i s→inv (i+1) (step i s a))
    (h0: ∀s,inv l.length s→F (pk l.length s)=some (.out (fin s))):loop F S0=some (fin (Yv step 0 s0 l)):=by
  rw [← IY step fin]
  exact pL pk l inv _ fin hS hi hF (fun i a s s' h1 h2 h3=>by cases h3;exact hI i a s h1 h2) h0
/-- The elements that a loop gathers. -/
def Bi (g:Nat→α→Option β):Nat→List α→List β
  |_,[]=> []
  |i,a::r=>match g i a with
   |some b=>b::Bi g (i+1) r
   |none=>Bi g (i+1) r
theorem Wu (g:Nat→α→Option β): ∀(l:List α) (i:Nat),(Bi g i l).length≤l.length
  | [],_=>wF _
  |a::r,i=>by
   have:=Wu g r (i+1)
   unfold Bi
   cases g i a<;>simp only [lL]<;>omega
theorem EK (g:Nat→α→Option β): ∀(l:List α) (i:Nat) (s:List β),Yv (fun i s a=>match g i a with|some b=>s++ [b]|none=>s) i s l=s++Bi g i l
  | [],_,s=>by simp [Yv,Bi]
  |a::r,i,s=>by
   unfold Yv Bi
   rw [EK g r (i+1)]
   cases g i a<;>simp
theorem jD {F:S→Option (Stp S τ)}(pk:Nat→List β→S)(l:List α)(g:Nat→α→Option β)(fin:List β→τ){S0:S}(hS:pk 0 []=S0)
    (hF: ∀i a (s:List β),l[i]? =some a→s.length≤i→F (pk i s)=some (.go (pk (i+1) (match g i a with|some b=>s++ [b]|none=>s))))
    (h0: ∀s,F (pk l.length s)=some (.out (fin s))):loop F S0=some (fin (Bi g 0 l)):=by
  have:=aD pk l (fun i s=>s.length≤i) (fun i s a=>match g i a with|some b=>s++ [b]|none=>s) fin hS (by simp) hF (fun i a s _ hs=>by
    cases g i a<;>simp<;>omega) (fun s _=>h0 s)
  rw [this,EK,lQ]
theorem IA {F:List β×Int→Option (Stp (List β×Int) τ)}(l:List α)(g:Nat→α→Option β)(fin:List β→τ)
    (hF: ∀(i:Nat) a (s:List β),l[i]? =some a→s.length≤i→F (s,(i:Int))=some (.go ((match g i a with|some b=>s++ [b]|none=>s),((i+1:Nat):Int))))
    (h0: ∀s,F (s,(l.length:Int))=some (.out (fin s))):loop F ([],0)=some (fin (Bi g 0 l)):=jD (fun i s=>(s,(i:Int))) l g fin rfl hF h0
/-- Is there one? -/
theorem IZ {F:Int→Option (Stp Int (Sum Unit β))}(l:List α)(p:α→Bool)(v:β)(hF: ∀(i:Nat) a,l[i]? =some a→F (i:Int)=some (if p a then .out (.inr v)else .go ((i+1:Nat):Int)))(h0:F (l.length:Int)=some (.out (.inl ()))):
    loop F 0=some (if l.any p then .inr v else .inl ()):=by
  have key: ∀(l:List α) (i:Nat),NJ (fun _ _ a=>if p a then Sum.inr (Sum.inr v)else Sum.inl ()) (fun _=>(Sum.inl ():Sum Unit β)) i () l=if l.any p then .inr v else .inl ():=by
    intro l
    induction l with
    |nil=>intro i;rfl
    |cons a r ih=>
     intro i
     unfold NJ
     rw [List.any_cons]
     cases h:p a
     ·exact ih (i+1)
     ·rfl
  rw [← key l 0]
  exact pL (F:=F) (σ:=Unit) (fun i _=>(i:Int)) l (fun _ _=>True) _ _ (s0:=()) rfl trivial (fun i a _ h _=>by rw [hF i a h];cases p a<;>rfl) (fun _ _ _ _ _ _ _=>trivial) (fun _ _=>h0)
end
theorem K7 {i:Nat}{n:Nat}(h:i<n):decide ((i:Int)< (n:Int))=true:=bG (by omega)
theorem J2 (n:Nat):decide ((n:Int)< (n:Int))=false:=bH (by omega)
theorem H5 {i:Nat}{n:Nat}(h:i<n)(hn:n≤1000000000000):D4 ((i:Int)+1)=((i+1:Nat):Int):=by rw [E6 (by omega)];omega
end Go.Abs
namespace Go.Abs.World
open Go Go.Abs
structure BearZ (m:Map):Prop where
  many:m.Zones.length≤1000000
  parts: ∀z∈m.Zones,z.Parts.length≤1000000
noncomputable def Q5 (m:Map)(k:Int):Int:=((m.Lanes[k.toNat]?).map fun l=>Ta l.Curve_).getD 0
noncomputable def Vm (m:Map)(p:Part):Bool:=decide (p.From<0)||decide (p.From≥p.To)||decide (p.To>Q5 m p.Lane_)||decide (p.Rank<0)||decide (p.Rank>100)
noncomputable def zoneE (m:Map)(_:Nat)(z:Zone):Option Int:=
  if z.Parts.length<2 then some 6
  else if 6<z.Parts.length then some 8
  else if z.Signal_<0∨(m.Signals.length:Int)<z.Signal_ then some 2
  else if Cq m.Lanes.length 0 (z.Parts.map (·.Lane_))=false then some 11
  else if z.Parts.any (Vm m)=true then some 2 else none
theorem Vn {m:Map}{k:Int}(h0:0≤k)(h1:k<m.Lanes.length): ∃l,m.Lanes[k.toNat]? =some l∧C3 m.Lanes k=some l:=by
  have hlt:k.toNat<m.Lanes.length:=by omega
  refine ⟨m.Lanes[k.toNat],lH hlt,?_⟩
  unfold C3
  rw [bN h0,lH hlt]
theorem KN {m:Map}(B:Bear m){k:Int}(h0:0≤k)(h1:k<m.Lanes.length):Cz m k=some (Q5 m k):=by
  obtain ⟨l,e1,e2⟩:=Vn h0 h1
  have:=nT (m:=m) e1 (B.pts l (lG e1)).1
  rw [show ((k.toNat:Nat):Int)=k by omega]at this
  rw [this,Q5,e1];rfl
theorem NK {m:Map}(B:Bear m){k:Int}(h0:0≤k)(h1:k<m.Lanes.length): ∃l,C3 m.Lanes k=some l∧Dp l.Curve_=some (Q5 m k):=by
  obtain ⟨l,e1,e2⟩:=Vn h0 h1
  refine ⟨l,e2,?_⟩
  rw [Ys _ (B.pts l (lG e1)).1,Q5,e1];rfl
theorem VJ {α β:Type}(f:α→β): ∀(l:List α) (i:Nat),Bi (fun _ a=>some (f a)) i l=l.map f
  | [],_=>rfl
  |a::r,i=>by rw [Bi,VJ f r];rfl
theorem jE {z:Zone}{F:List Int×Int→Option (Stp (List Int×Int) (List Int))}(hl:z.Parts.length≤1000000)
    (hF: ∀x,F x=cond (decide (x.2< (z.Parts.length:Int))) ((C3 z.Parts x.2).bind fun v=>(Ah x.1 [v.Lane_]).bind fun w=>some (.go (w,D4 (x.2+1)))) (some (.out x.1))):
    loop F ([],0)=some (z.Parts.map (·.Lane_)):=by
  rw [← VJ (fun p:Part=>p.Lane_) z.Parts 0]
  refine jD (fun i s=>(s,(i:Int))) z.Parts (fun _ p=>some p.Lane_) id rfl (fun i a s ha hs=> ?_) (fun s=> ?_)
  ·have hi:=J1 ha
   rw [hF,K7 hi,C9 ha,bK,lB,Di (by simp;omega),lB,H5 hi (by omega)]
  ·rw [hF,J2];rfl
theorem jF {m:Map}(B:Bear m)(Z:BearZ m):V3 ⟨m⟩=some ((K0 (zoneE m) 0 m.Zones).getD 0):=by
  have hb:=B.lanes
  have h:=As m.Zones (R4 ⟨m⟩) (zoneE m) (fun i z hz=>by
    have hi:=J1 hz
    have hm:=Z.many
    have p1:=Z.parts z (lG hz)
    unfold R4 zoneE
    dsimp only
    rw [K7 hi,C9 hz,bK,lB,jE p1 (F:=Fo z) (fun x=>rfl),lB,HX _ _ _ (by simpa using p1) (by omega) (by omega),lB,H5 hi (by omega)]
    by_cases h1:z.Parts.length<2
    ·rw [bN h1,show decide ((z.Parts.length:Int)<2)=true from bG (by omega)];rfl
    ·rw [bO h1,show decide ((z.Parts.length:Int)<2)=false from bH (by omega),bM]
     by_cases h2:6<z.Parts.length
     ·rw [bN h2,show decide ((z.Parts.length:Int)>6)=true from bG (by omega)];rfl
     ·rw [bO h2,show decide ((z.Parts.length:Int)>6)=false from bH (by omega),bM]
      by_cases h3:z.Signal_<0∨(m.Signals.length:Int)<z.Signal_
      ·rw [bN h3,show ((decide (z.Signal_<0))||(decide (z.Signal_>(m.Signals.length:Int))))=true by simpa using h3];rfl
      ·rw [bO h3,show ((decide (z.Signal_<0))||(decide (z.Signal_>(m.Signals.length:Int))))=false by rw [bX];simpa using h3,bM]
       cases h4:Cq (m.Lanes.length:Int) 0 (z.Parts.map (·.Lane_))
       ·rfl
       ·rw [bO (by decide)]
        have:=IZ (F:=R3 ⟨m⟩ z) z.Parts (Vm m) (2:Int) (fun j p hp=>by
          have hj:=J1 hp
          have hk:=Mc h4 p.Lane_ (List.mem_map.2 ⟨p,lG hp,rfl⟩)
          unfold R3 Vm
          dsimp only
          rw [K7 hj,C9 hp,bK,lB,KN B hk.1 hk.2,H5 hj (by omega)]
          cases h5:(decide (p.From<0)||decide (p.From≥p.To))
          ·simp only [bV,bK,lB]
           cases (false||decide (p.To>Q5 m p.Lane_)||decide (p.Rank<0)||decide (p.Rank>100))<;>rfl
          ·rfl) (by unfold R3;rw [J2];rfl)
        rw [this]
        cases z.Parts.any (Vm m)<;>rfl) (by
    unfold R4
    dsimp only
    rw [J2];rfl)
  unfold V3
  rw [h]
  cases K0 (zoneE m) 0 m.Zones<;>rfl
theorem jG {m:Map}(B:Bear m)(Z:BearZ m){i:Nat}{z:Zone}(hz:m.Zones[i]? =some z):Ji m z=some ((zoneE m i z).getD 0):=by
  have hb:=B.lanes
  have p1:=Z.parts z (lG hz)
  unfold Ji zoneE
  rw [jE p1 (F:=Iv z) (fun x=>rfl),lB,EJ _ _ _ (by simpa using p1),lB]
  by_cases h1:z.Parts.length<2
  ·rw [bN h1,show decide ((z.Parts.length:Int)<2)=true from bG (by omega)];rfl
  ·rw [bO h1,show decide ((z.Parts.length:Int)<2)=false from bH (by omega),bM]
   by_cases h2:6<z.Parts.length
   ·rw [bN h2,show decide ((z.Parts.length:Int)>6)=true from bG (by omega)];rfl
   ·rw [bO h2,show decide ((z.Parts.length:Int)>6)=false from bH (by omega),bM]
    by_cases h3:z.Signal_<0∨(m.Signals.length:Int)<z.Signal_
    ·rw [bN h3,show ((decide (z.Signal_<0))||(decide (z.Signal_>(m.Signals.length:Int))))=true by simpa using h3];rfl
    ·rw [bO h3,show ((decide (z.Signal_<0))||(decide (z.Signal_>(m.Signals.length:Int))))=false by rw [bX];simpa using h3,bM]
     cases h4:Cq (m.Lanes.length:Int) 0 (z.Parts.map (·.Lane_))
     ·rfl
     ·rw [bO (by decide)]
      have:=IZ (F:=Bq m z) z.Parts (Vm m) (2:Int) (fun j p hp=>by
        have hj:=J1 hp
        have hk:=Mc h4 p.Lane_ (List.mem_map.2 ⟨p,lG hp,rfl⟩)
        obtain ⟨l,e1,e2⟩:=NK B hk.1 hk.2
        unfold Bq Vm
        rw [K7 hj,C9 hp,bK,lB,e1,H5 hj (by omega)]
        cases h5:(decide (p.From<0)||decide (p.From≥p.To))
        ·simp only [bV,bK,lB,e2]
         cases (false||decide (p.To>Q5 m p.Lane_)||decide (p.Rank<0)||decide (p.Rank>100))<;>rfl
        ·rfl) (by unfold Bq;rw [J2];rfl)
      rw [this]
      cases z.Parts.any (Vm m)<;>rfl
structure BearW (m:Map):Prop where
  many:m.Works.length≤1000000
noncomputable def workE (m:Map)(_:Nat)(w:Work):Option Int:=
  if w.Lane_<0∨(m.Lanes.length:Int)≤w.Lane_ then some 7
  else if (decide (w.From<0)||decide (w.From>w.To)||decide (w.To>Q5 m w.Lane_)||decide (w.Begin<0)||decide (w.Begin≥w.End)||decide (w.End>1099511627776)|| !Wf w.Limit 0 ((m.Lanes[w.Lane_.toNat]?).map fun l=>(Hp l.Kind).1).get!)=true then some 2 else none
theorem jH {m:Map}(B:Bear m)(W:BearW m):V4 ⟨m⟩=some ((K0 (workE m) 0 m.Works).getD 0):=by
  have hb:=B.lanes
  have h:=As m.Works (R5 ⟨m⟩) (workE m) (fun i w hw=>by
    have hi:=J1 hw
    have hm:=W.many
    unfold R5 workE
    dsimp only
    rw [K7 hi,C9 hw,bK,lB,H5 hi (by omega)]
    by_cases h1:w.Lane_<0∨(m.Lanes.length:Int)≤w.Lane_
    ·rw [bN h1,show ((decide (w.Lane_<0))||(decide (w.Lane_≥(m.Lanes.length:Int))))=true by simpa using h1];rfl
    ·rw [bO h1,show ((decide (w.Lane_<0))||(decide (w.Lane_≥(m.Lanes.length:Int))))=false by rw [bX];simpa using h1,bM]
     obtain ⟨l,e1,e2⟩:=Vn (m:=m) (k:=w.Lane_) (by omega) (by omega)
     rw [e2,lB,HW,lB,KN B (by omega) (by omega),Ql,e1]
     simp only [lF,Option.get!_some]
     cases (decide (w.From<0)||decide (w.From>w.To))
     ·simp only [bV,bK,lB]
      cases (false||decide (w.To>Q5 m w.Lane_)||decide (w.Begin<0)||decide (w.Begin≥w.End)||decide (w.End>1099511627776))
      ·simp only [bV,bK,lB]
       by_cases hq:Wf w.Limit 0 (Hp l.Kind).1=true<;>simp [hq]
      ·rfl
     ·rfl) (by
    unfold R5
    dsimp only
    rw [J2];rfl)
  unfold V4
  rw [h]
  cases K0 (workE m) 0 m.Works<;>rfl
theorem jI {m:Map}(B:Bear m){i:Nat}(w:Work):Jj m w=some ((workE m i w).getD 0):=by
  have hb:=B.lanes
  unfold Jj workE
  by_cases h1:w.Lane_<0∨(m.Lanes.length:Int)≤w.Lane_
  ·rw [bN h1,show ((decide (w.Lane_<0))||(decide (w.Lane_≥(m.Lanes.length:Int))))=true by simpa using h1];rfl
  ·rw [bO h1,show ((decide (w.Lane_<0))||(decide (w.Lane_≥(m.Lanes.length:Int))))=false by rw [bX];simpa using h1,bM]
   obtain ⟨l,e1,e2⟩:=Vn (m:=m) (k:=w.Lane_) (by omega) (by omega)
   obtain ⟨l',e3,e4⟩:=NK B (k:=w.Lane_) (by omega) (by omega)
   rw [e2]at e3
   cases e3
   rw [e2,lB,Yd,lB,e4,Un,e1]
   simp only [lF,Option.get!_some]
   cases (decide (w.From<0)||decide (w.From>w.To))
   ·simp only [bV,bK,lB]
    cases (false||decide (w.To>Q5 m w.Lane_)||decide (w.Begin<0)||decide (w.Begin≥w.End)||decide (w.End>1099511627776))
    ·simp only [bV,bK,lB]
     by_cases hq:Wf w.Limit 0 (Hp l.Kind).1=true<;>simp [hq]
    ·rfl
   ·rfl
theorem YH {m:Map}(S:BearS m)(i:Nat){s:Signal}(hs:s∈m.Signals):Fw m s=some ((signalE m i s).getD 0):=by
  obtain ⟨p1,p2⟩:=S.phases s hs
  unfold Fw signalE
  rw [Un,lB,show (0:Int)=((0:Nat):Int) from rfl,VI s p1 s.Phases 0 _ rfl (by omega),lB]
  rw [show ((0:Nat):Int)=0 from rfl,SM m s p1 p2]
  by_cases h1:s.Phases.length=0
  ·rw [bN h1,h1];rfl
  ·rw [bO h1,show ((s.Phases.length:Int)==0)=false by simp only [beq_eq_false_iff_ne];omega,bM]
   by_cases h2:6<s.Phases.length
   ·rw [bN h2,show decide ((s.Phases.length:Int)>6)=true from bG (by omega)];rfl
   ·rw [bO h2,show decide ((s.Phases.length:Int)>6)=false from bH (by omega),bM]
    cases Wf s.Offset 0 1099511627776
    ·rfl
    ·cases (s.Phases.any fun p=> !Wf p.Ticks 1 10000)
     ·cases (s.Phases.any fun p=> !Cq m.Lanes.length 0 p.Green)<;>rfl
     ·rfl
/-- All lists of a map are of bearable lengths. -/
structure BearM (m:Map):Prop where
  toBear:Bear m
  toBearS:BearS m
  toBearZ:BearZ m
  toBearW:BearW m
theorem BearM.lanes {m:Map}(B:BearM m):m.Lanes.length≤1000000:=B.toBear.lanes
noncomputable def Wv (m:Map):Int:=
  if Wf m.Version 0 1099511627776=false then 2
  else if m.Lanes.length=0 then 6
  else if 12<m.Lanes.length∨12<m.Zones.length∨4<m.Signals.length∨8<m.Works.length then 8
  else ((K0 (laneE m.Lanes.length) 0 m.Lanes).or ((K0 (nextE m) 0 m.Lanes).or ((K0 (signalE m) 0 m.Signals).or ((K0 (zoneE m) 0 m.Zones).or (K0 (workE m) 0 m.Works))))).getD 0
theorem Br {α:Type}{g:Nat→α→Option Int}(h: ∀i a e,g i a=some e→e≠0): ∀{l:List α} {i:Nat} {e:Int},K0 g i l=some e→e≠0
  | [],_,_,q=>by cases q
  |a::r,i,e,q=>by
   unfold K0 at q
   cases hg:g i a with
   |some e'=>rw [hg]at q;cases q;exact h i a e hg
   |none=>rw [hg]at q;exact Br h q
theorem GM {m:Map}{i:Nat}{z:Zone}{e:Int}(h:zoneE m i z=some e):e≠0:=by
  unfold zoneE at h
  repeat' split at h
  all_goals first|(cases h;decide)|cases h
theorem Ye {m:Map}{i:Nat}{z:Signal}{e:Int}(h:signalE m i z=some e):e≠0:=by
  unfold signalE at h
  repeat' split at h
  all_goals first|(cases h;decide)|cases h
theorem NL {m:Map}{i:Nat}{z:Work}{e:Int}(h:workE m i z=some e):e≠0:=by
  unfold workE at h
  repeat' split at h
  all_goals first|(cases h;decide)|cases h
theorem NM {m:Map}{i:Nat}{z:Lane}{e:Int}(h:nextE m i z=some e):e≠0:=Br (fun _ _ _=>dE) h
/-- A loop that goes on as long as there is no error. -/
theorem jJ {α:Type}{F:Int×Int→Option (Stp (Int×Int) Int)}(l:List α)(g:Nat→α→Option Int)(hg: ∀i a e,g i a=some e→e≠0)(hl:l.length≤1000000)
    (hF: ∀(i:Nat) a,l[i]? =some a→F (0,(i:Int))=some (.go ((g i a).getD 0,((i+1:Nat):Int)))) (h0: ∀(i:Nat) (e:Int),e≠0→F (e,(i:Int))=some (.out e)) (h1:F (0,(l.length:Int))=some (.out 0)) (e0:Option Int) (he: ∀e,e0=some e→e≠0):
    loop F (e0.getD 0,0)=some ((e0.or (K0 g 0 l)).getD 0):=by
  have key: ∀(r:List α) (i:Nat),l.drop i=r→i≤l.length→loop F (0,(i:Int))=some ((K0 g i r).getD 0):=by
    intro r
    induction r with
    |nil=>
     intro i hi hil
     have:=N0 hi
     obtain rfl:i=l.length:=by omega
     exact D2 h1
    |cons a r ih=>
     intro i hi hil
     have hlt:=L3 hi
     have hs:=hF i a (S6 hi)
     rw [H8 hs]
     unfold K0
     cases h:g i a with
     |some e=>exact D2 (h0 (i+1) e (hg i a e h))
     |none=>exact ih (i+1) (I4 hi) (by omega)
  cases e0 with
  |some e=>exact D2 (h0 0 e (he e rfl))
  |none=>exact key l 0 rfl (by omega)
theorem Up {m:Map}(B:BearM m):Kw m=some (Wv m):=by
  have hb:=B.lanes
  unfold Kw Wv
  rw [Un,lB]
  cases Wf m.Version 0 1099511627776
  ·rfl
  ·simp only [bU,bM,Bool.true_eq_false,if_false]
   by_cases h1:m.Lanes.length=0
   ·rw [bN h1,h1];rfl
   ·rw [bO h1,show ((m.Lanes.length:Int)==0)=false by simp only [beq_eq_false_iff_ne];omega,bM]
    by_cases h2:12<m.Lanes.length∨12<m.Zones.length∨4<m.Signals.length∨8<m.Works.length
    ·rw [bN h2,show ((((decide ((m.Lanes.length:Int)>12))||(decide ((m.Zones.length:Int)>12)))||(decide ((m.Signals.length:Int)>4)))||(decide ((m.Works.length:Int)>8)))=true by simp;omega];rfl
    ·rw [bO h2,show ((((decide ((m.Lanes.length:Int)>12))||(decide ((m.Zones.length:Int)>12)))||(decide ((m.Signals.length:Int)>4)))||(decide ((m.Works.length:Int)>8)))=false by simp;omega,bM]
     rw [VG B.toBear]
     cases H:K0 (laneE m.Lanes.length) 0 m.Lanes with
     |some e=>rfl
     |none=>
      have n1: ∀e,K0 (nextE m) 0 m.Lanes=some e→e≠0:=fun e h=>Br (fun _ _ _=>NM) h
      have n2: ∀e,(K0 (nextE m) 0 m.Lanes).or (K0 (signalE m) 0 m.Signals)=some e→e≠0:=fun e h=>by
        rcases Option.or_eq_some_iff.1 h with h|⟨_,h⟩
        ·exact n1 e h
        ·exact Br (fun _ _ _=>Ye) h
      have n3: ∀e,((K0 (nextE m) 0 m.Lanes).or (K0 (signalE m) 0 m.Signals)).or (K0 (zoneE m) 0 m.Zones)=some e→e≠0:=fun e h=>by
        rcases Option.or_eq_some_iff.1 h with h|⟨_,h⟩
        ·exact n2 e h
        ·exact Br (fun _ _ _=>GM) h
      simp only [NF,thenS,Option.none_or]
      rw [(QE B.toBear H).2,lB]
      rw [jJ m.Signals (signalE m) (fun _ _ _=>Ye) B.toBearS.many (fun i a ha=>by
       have hi:=J1 ha
       have hm:=B.toBearS.many
       unfold Hf
       dsimp only
       rw [K7 hi,C9 ha,bP,show ((0:Int)==0)=true from rfl,bK,lB,YH B.toBearS i (lG ha),H5 hi (by omega)];rfl) (fun i e he=>by
       unfold Hf
       dsimp only
       rw [show (e==0)=false by simpa using he,Bool.and_false];rfl) (by unfold Hf;dsimp only;rw [J2];rfl) _ n1,lB]
      rw [jJ m.Zones (zoneE m) (fun _ _ _=>GM) B.toBearZ.many (fun i a ha=>by
       have hi:=J1 ha
       have hm:=B.toBearZ.many
       unfold He
       dsimp only
       rw [K7 hi,C9 ha,bP,show ((0:Int)==0)=true from rfl,bK,lB,jG B.toBear B.toBearZ ha,H5 hi (by omega)];rfl) (fun i e he=>by
       unfold He
       dsimp only
       rw [show (e==0)=false by simpa using he,Bool.and_false];rfl) (by unfold He;dsimp only;rw [J2];rfl) _ n2,lB]
      rw [jJ m.Works (workE m) (fun _ _ _=>NL) B.toBearW.many (fun i a ha=>by
       have hi:=J1 ha
       have hm:=B.toBearW.many
       unfold Hd
       dsimp only
       rw [K7 hi,C9 ha,bP,show ((0:Int)==0)=true from rfl,bK,lB,jI B.toBear (i:=i) a,H5 hi (by omega)];rfl) (fun i e he=>by
       unfold Hd
       dsimp only
       rw [show (e==0)=false by simpa using he,Bool.and_false];rfl) (by unfold Hd;dsimp only;rw [J2];rfl) _ n3,lB]
      rw [Option.or_assoc,Option.or_assoc]
theorem Ph {m:Map}(B:BearM m):Cc m=some (Wv m):=by
  have hb:=B.lanes
  have s0:O6 m 0=(Aq ⟨m⟩).bind fun v2=>cond (v2 !=0) (some (.out (.inr v2))) (some (.go 1)):=rfl
  have s1:O6 m 1=(V2 ⟨m⟩).bind fun v2=>cond (v2 !=0) (some (.out (.inr v2))) (some (.go 2)):=rfl
  have s2:O6 m 2=(U5 ⟨m⟩).bind fun v2=>cond (v2 !=0) (some (.out (.inr v2))) (some (.go 3)):=rfl
  have s3:O6 m 3=(T3 ⟨m⟩).bind fun v2=>cond (v2 !=0) (some (.out (.inr v2))) (some (.go 4)):=rfl
  have s4:O6 m 4=(V3 ⟨m⟩).bind fun v2=>cond (v2 !=0) (some (.out (.inr v2))) (some (.go 5)):=rfl
  have s5:O6 m 5=(V4 ⟨m⟩).bind fun v2=>cond (v2 !=0) (some (.out (.inr v2))) (some (.go 6)):=rfl
  have s6:O6 m 6=some (.out (.inl ())):=rfl
  have stp: ∀(i j:Int) (e:Option Int) (X:Option Int),(∀e',e=some e'→e'≠0)→X=some (e.getD 0)→O6 m i=X.bind (fun v2=>cond (v2 !=0) (some (.out (.inr v2))) (some (.go j)))→loop (O6 m) i=match e with|some e'=>some (.inr e')|none=>loop (O6 m) j:=by
    intro i j e X he hX hs
    subst hX
    rw [lB]at hs
    cases e with
    |none=>exact H8 hs
    |some e'=>
     rw [Option.getD_some,show (e' !=0)=true by simpa using he e' rfl]at hs
     exact D2 hs
  unfold Cc Wv
  have hnum:Aq ⟨m⟩=some ((if Wf m.Version 0 1099511627776=false then some 2 else if m.Lanes.length=0 then some 6 else if 12<m.Lanes.length∨12<m.Zones.length∨4<m.Signals.length∨8<m.Works.length then some 8 else none:Option Int).getD 0):=by
    unfold Aq
    dsimp only
    rw [Ql,lB]
    cases Wf m.Version 0 1099511627776
    ·rfl
    ·simp only [bU,bM,Bool.true_eq_false,if_false]
     by_cases h1:m.Lanes.length=0
     ·rw [bN h1,h1];rfl
     ·rw [bO h1,show ((m.Lanes.length:Int)==0)=false by simp only [beq_eq_false_iff_ne];omega,bM]
      by_cases h2:12<m.Lanes.length∨12<m.Zones.length∨4<m.Signals.length∨8<m.Works.length
      ·rw [bN h2,show ((((decide ((m.Lanes.length:Int)>12))||(decide ((m.Zones.length:Int)>12)))||(decide ((m.Signals.length:Int)>4)))||(decide ((m.Works.length:Int)>8)))=true by simp;omega];rfl
      ·rw [bO h2,show ((((decide ((m.Lanes.length:Int)>12))||(decide ((m.Zones.length:Int)>12)))||(decide ((m.Signals.length:Int)>4)))||(decide ((m.Works.length:Int)>8)))=false by simp;omega];rfl
  rw [stp 0 1 _ _ (by repeat' split
                      all_goals (intro e' h;first|(cases h;decide)|cases h)) hnum s0]
  by_cases q1:Wf m.Version 0 1099511627776=false
  ·rw [bN q1,bN q1];rfl
  ·rw [bO q1,bO q1]
   by_cases q2:m.Lanes.length=0
   ·rw [bN q2,bN q2];rfl
   ·rw [bO q2,bO q2]
    by_cases q3:12<m.Lanes.length∨12<m.Zones.length∨4<m.Signals.length∨8<m.Works.length
    ·rw [bN q3,bN q3];rfl
    ·rw [bO q3,bO q3]
     dsimp only
     rw [stp 1 2 _ _ (fun e' h=>Br (fun _ _ _=>NG) h) (jA B.toBear) s1]
     cases H:K0 (laneE m.Lanes.length) 0 m.Lanes with
     |some e=>rfl
     |none=>
      dsimp only
      rw [stp 2 3 _ _ (fun e' h=>Br (fun _ _ _=>NM) h) (QE B.toBear H).1 s2]
      cases K0 (nextE m) 0 m.Lanes with
      |some e=>rfl
      |none=>
       dsimp only
       rw [stp 3 4 _ _ (fun e' h=>Br (fun _ _ _=>Ye) h) (YG B.toBear B.toBearS) s3]
       cases K0 (signalE m) 0 m.Signals with
       |some e=>rfl
       |none=>
        dsimp only
        rw [stp 4 5 _ _ (fun e' h=>Br (fun _ _ _=>GM) h) (jF B.toBear B.toBearZ) s4]
        cases K0 (zoneE m) 0 m.Zones with
        |some e=>rfl
        |none=>
         dsimp only
         rw [stp 5 6 _ _ (fun e' h=>Br (fun _ _ _=>NL) h) (jH B.toBear B.toBearW) s5]
         cases K0 (workE m) 0 m.Works with
         |some e=>rfl
         |none=>dsimp only;rw [D2 s6];rfl
/-- What a valid map is. -/
structure ValR (m:Map):Prop where
  ver:0≤m.Version∧m.Version≤1099511627776
  pos:0<m.Lanes.length
  lanes:m.Lanes.length≤12
  zones:m.Zones.length≤12
  signals:m.Signals.length≤4
  works:m.Works.length≤8
  laneE:K0 (laneE m.Lanes.length) 0 m.Lanes=none
  nextE:K0 (nextE m) 0 m.Lanes=none
  signalE:K0 (signalE m) 0 m.Signals=none
  zoneE:K0 (zoneE m) 0 m.Zones=none
  workE:K0 (workE m) 0 m.Works=none
theorem dG {α:Type}{g:Nat→α→Option Int}{l:List α}(h: ∀i a e,g i a=some e→e≠0)(h0:(K0 g 0 l).getD 0=0):K0 g 0 l=none:=by
  cases q:K0 g 0 l with
  |none=>rfl
  |some e=>rw [q]at h0;exact absurd h0 (Br h q)
theorem chkR_zero {m:Map}:Wv m=0↔ValR m:=by
  unfold Wv
  constructor
  ·intro h
   split at h
   ·cases h
   ·rename_i h1
    split at h
    ·cases h
    ·rename_i h2
     split at h
     ·cases h
     ·rename_i h3
      simp only [Wf,Bool.not_eq_false,bS,bI]at h1
      have key: ∀{o r:Option Int},(∀e,o=some e→e≠0)→(o.or r).getD 0=0→o=none∧r.getD 0=0:=by
        intro o r ho hr
        cases o with
        |none=>exact ⟨rfl,hr⟩
        |some e=>exact absurd hr (ho e rfl)
      obtain ⟨a1,h⟩:=key (fun e h=>Br (fun _ _ _=>NG) h) h
      obtain ⟨a2,h⟩:=key (fun e h=>Br (fun _ _ _=>NM) h) h
      obtain ⟨a3,h⟩:=key (fun e h=>Br (fun _ _ _=>Ye) h) h
      obtain ⟨a4,h⟩:=key (fun e h=>Br (fun _ _ _=>GM) h) h
      exact ⟨h1,by omega,by omega,by omega,by omega,by omega,a1,a2,a3,a4,dG (fun _ _ _=>NL) h⟩
  ·rintro ⟨h1,h2,h3,h4,h5,h6,a1,a2,a3,a4,a5⟩
   rw [bO (by simp only [Wf,Bool.not_eq_false,bS,bI];exact h1),bO (by omega),bO (by omega),a1,a2,a3,a4,a5];rfl
section
variable {m:Map}
theorem ValR.laneOK (V:ValR m){i:Nat}{l:Lane}(h:m.Lanes[i]? =some l):LaneOK m.Lanes.length i l:=BK V.laneE h
theorem ValR.next (V:ValR m){i:Nat}{l:Lane}(h:m.Lanes[i]? =some l){k:Int}(hk:k∈l.Next):(i:Int)<k∧k<m.Lanes.length:=by
  have:=Mc (V.laneOK h).next k hk
  omega
end
/-- The lanes in which a lane goes on. -/
def nextOf (m:Map)(a:Nat):List Int:=((m.Lanes[a]?).map (·.Next)).getD []
theorem ValR.nextOf {m:Map}(V:ValR m){a:Nat}{k:Int}(hk:k∈World.nextOf m a):(a:Int)<k∧k<m.Lanes.length:=by
  unfold World.nextOf at hk
  cases h:m.Lanes[a]? with
  |none=>rw [h]at hk;cases hk
  |some l=>rw [h]at hk;exact V.next h hk
def Uq (m:Map)(b:Int):Nat→Nat→Bool
  |0,_=>false
  |n+1,a=>(nextOf m a).any fun k=>k==b||Uq m b n k.toNat
theorem VK {m:Map}(V:ValR m)(b:Int): ∀(n n' a:Nat),m.Lanes.length≤a+n→m.Lanes.length≤a+n'→Uq m b n a=Uq m b n' a:=by
  intro n
  induction n with
  |zero=>
   intro n' a h h'
   have:nextOf m a= []:=by
     unfold nextOf
     rw [lJ (by omega)];rfl
   cases n' with
   |zero=>rfl
   |succ n'=>rw [Uq,Uq,this];rfl
  |succ n ih=>
   intro n' a h h'
   cases n' with
   |zero=>
    have:nextOf m a= []:=by
      unfold nextOf
      rw [lJ (by omega)];rfl
    rw [Uq,Uq,this];rfl
   |succ n'=>
    rw [Uq,Uq]
    rw [Bool.eq_iff_iff,l7,l7]
    refine exists_congr fun k=>and_congr_right fun hk=> ?_
    have:=V.nextOf hk
    rw [ih n' k.toNat (by omega) (by omega)]
/-- Does a lane lead to another one? -/
def Ur (m:Map)(a:Nat)(b:Int):Bool:=Uq m b m.Lanes.length a
theorem CA {m:Map}(V:ValR m)(a:Nat)(b:Int):Ur m a b=(nextOf m a).any fun k=>k==b||Ur m k.toNat b:=by
  unfold Ur
  rw [VK V b _ (m.Lanes.length+1) a (by omega) (by omega),Uq]
/-- What is known of the sets of the lanes from a number on. -/
structure Reach (m:Map)(i:Nat)(l:List Nat):Prop where
  len:l.length=12
  small: ∀(a x:Nat),l[a]? =some x→x<2^32
  zero: ∀(a:Nat),a<i→l[a]? =some 0
  bits: ∀(a x:Nat),i≤a→a<m.Lanes.length→l[a]? =some x→∀b:Nat,x.testBit b=Ur m a (b:Int)
theorem Reach.get {m:Map}{i:Nat}{l:List Nat}(R:Reach m i l){a:Nat}(h:a<12): ∃x,l[a]? =some x∧x<2^32:=by
  have:=R.len
  exact ⟨l[a],lH (by omega),R.small a _ (lH (by omega))⟩
theorem QF {m:Map}(V:ValR m){b:Int}: ∀(n a:Nat),m.Lanes.length≤a+n→Ur m a b=true→(a:Int)<b∧b<m.Lanes.length
  |0,a,hn,h=>by
   rw [CA V]at h
   have:nextOf m a= []:=by
     unfold nextOf
     rw [lJ (by omega)];rfl
   rw [this]at h
   cases h
  |n+1,a,hn,h=>by
   rw [CA V,l7]at h
   obtain ⟨k,hk,h⟩:=h
   have:=V.nextOf hk
   rcases bT _ _▸h with h|h
   ·have:=eq_of_beq h;omega
   ·have:=QF V n k.toNat (by omega) h;omega
theorem jK {m:Map}(V:ValR m){a:Nat}{b:Int}(h:Ur m a b=true):(a:Int)<b∧b<m.Lanes.length:=QF V m.Lanes.length a (by omega) h
theorem JA {m:Map}(V:ValR m){b:Nat}{c:Int}(h2:Ur m b c=true): ∀(n a:Nat),m.Lanes.length≤a+n→Ur m a (b:Int)=true→Ur m a c=true
  |0,a,hn,h=>by have:=jK V h;omega
  |n+1,a,hn,h=>by
   rw [CA V,l7]at h ⊢
   obtain ⟨k,hk,h⟩:=h
   have:=V.nextOf hk
   refine ⟨k,hk,?_⟩
   rcases bT _ _▸h with h|h
   ·have e:=eq_of_beq h
    subst e
    rw [wD,h2,Bool.or_true]
   ·rw [JA V h2 n k.toNat (by omega) h,Bool.or_true]
/-! ### Is a lane there? -/
noncomputable def YI (m:Map)(k:Int):Bool:=(decide (k≥0)&&decide (k<m.Lanes.length))&& (Wv m==0)
theorem isM_true {m:Map}{k:Int}:YI m k=true↔0≤k∧k<m.Lanes.length∧ValR m:=by
  unfold YI
  rw [bS,bS,bZ,chkR_zero]
  simp only [bI,and_assoc,ge_iff_le]
theorem JB {m:Map}(B:BearM m)(k:Int):Mp m k=some (YI m k):=by
  unfold Mp YI
  rw [Ph B]
  cases (decide (k≥0)&&decide (k< (m.Lanes.length:Int)))<;>rfl
theorem DK {m:Map}(B:BearM m)(k:Int):Qe m k=some (YI m k):=by
  unfold Qe YI
  rw [Up B]
  cases (decide (k≥0)&&decide (k< (m.Lanes.length:Int)))<;>rfl
theorem Yw {m:Map}(B:BearM m){k:Int}(h0:0≤k)(h1:k<m.Lanes.length):Lw m k=some (Q5 m k):=by
  obtain ⟨l,e1,e2⟩:=NK B.toBear h0 h1
  unfold Lw
  rw [e1,lB,e2];rfl
noncomputable def Iz (m:Map)(k:Int):Int:=if YI m k then Q5 m k else 0
theorem Yx {m:Map}(B:BearM m)(k:Int):Am m k=some (Iz m k):=by
  unfold Am Iz
  rw [JB B,lB]
  cases h:YI m k
  ·rfl
  ·have:=isM_true.1 h
   rw [bN rfl,bU,bM,KN B.toBear this.1 this.2.1];rfl
theorem KC {m:Map}(B:BearM m)(k:Int):Pe m k=some (Iz m k):=by
  unfold Pe Iz
  rw [DK B,lB]
  cases h:YI m k
  ·rfl
  ·have:=isM_true.1 h
   rw [bN rfl,bU,bM,Yw B this.1 this.2.1];rfl
theorem BM (l:List Int)(hl:l.length≤1000000)(k:Int):N2 l k=some (l.contains k):=by
  unfold N2 U1
  rw [Uo l (fun x=>k==x) (by omega) (fun i a h=>by
   have hi:=J1 h
   unfold Z8
   rw [K7 hi,C9 h,bK,lB]
   cases k==a<;>rfl) (by unfold Z8;rw [J2];rfl)]
  rw [lB,Wt,List.contains_eq_any_beq]
theorem YJ (l:List Int)(hl:l.length≤1000000)(k:Int):Qc l k=some (l.contains k):=by
  unfold Qc
  rw [IZ l (fun x=>x==k) true (fun i a h=>by
   have hi:=J1 h
   unfold Pc
   rw [K7 hi,C9 h,bK,lB,H5 hi (by omega)]
   cases a==k<;>rfl) (by unfold Pc;rw [J2];rfl)]
  rw [List.contains_eq_any_beq,show (fun x=>x==k)=(fun x=>k==x) from funext fun x=>by rw [Bool.beq_comm]]
  cases l.any fun x=>k==x<;>rfl
/-- What comes before a lane. -/
def Cr (m:Map)(k:Int):List Int:=Bi (fun i (l:Lane)=>if l.Next.contains k then some (i:Int)else none) 0 m.Lanes
theorem dH {m:Map}(B:BearM m)(k:Int):Fp m k=some (Cr m k):=by
  unfold Fp Cr
  have hb:=B.lanes
  rw [IA m.Lanes (fun i (l:Lane)=>if l.Next.contains k then some (i:Int)else none) id (fun i l s h hs=>by
   have hi:=J1 h
   unfold Av
   dsimp only
   rw [K7 hi,C9 h,bK,lB,BM _ (B.toBear.pts l (lG h)).2,lB,Di (by simp;omega),H5 hi (by omega)]
   cases l.Next.contains k<;>rfl) (fun s=>by unfold Av;rw [J2];rfl)]
  rfl
theorem NN {m:Map}(B:BearM m)(k:Int):Lv m k=some (Cr m k):=by
  unfold Lv Cr
  have hb:=B.lanes
  rw [IA m.Lanes (fun i (l:Lane)=>if l.Next.contains k then some (i:Int)else none) id (fun i l s h hs=>by
   have hi:=J1 h
   unfold Jk
   dsimp only
   rw [K7 hi,C9 h,bK,lB,YJ _ (B.toBear.pts l (lG h)).2,lB,Di (by simp;omega),H5 hi (by omega)]
   cases l.Next.contains k<;>rfl) (fun s=>by unfold Jk;rw [J2];rfl)]
  rfl
def T7 (m:Map):List Int:=Bi (fun i (_:Lane)=>if (Cr m (i:Int)).length=0 then some (i:Int)else none) 0 m.Lanes
theorem VL {m:Map}(B:BearM m):Mv m=some (T7 m):=by
  unfold Mv T7
  have hb:=B.lanes
  rw [IA m.Lanes (fun i (_:Lane)=>if (Cr m (i:Int)).length=0 then some (i:Int)else none) id (fun i l s h hs=>by
   have hi:=J1 h
   unfold Ho
   dsimp only
   rw [K7 hi,bK,NN B,lB,Di (by simp;omega),H5 hi (by omega)]
   by_cases q:(Cr m (i:Int)).length=0
   ·rw [bN q,q];rfl
   ·rw [bO q,show (((Cr m (i:Int)).length:Int)==0)=false by simp only [beq_eq_false_iff_ne];omega];rfl) (fun s=>by unfold Ho;rw [J2];rfl)]
  rfl
def Oe (z:Zone)(k:Int):Part×Bool:=match z.Parts.find? (fun p=>p.Lane_==k)with|some p=>(p,true)|none=>(⟨0,0,0,0⟩,false)
theorem nU {z:Zone}(hl:z.Parts.length≤1000000)(k:Int):Kr z k=some (Oe z k):=by
  unfold Kr K2 Oe
  rw [Uo z.Parts (fun p=>p.Lane_==k) (by omega) (fun i a h=>by
   have hi:=J1 h
   unfold M6 Ou
   rw [K7 hi,C9 h,bK,lB,lB]
   cases a.Lane_==k<;>rfl) (by unfold M6;rw [J2];rfl),lB]
  unfold HZ
  cases h:z.Parts.findIdx? (fun p=>p.Lane_==k)with
  |none=>
   have:z.Parts.find? (fun p=>p.Lane_==k)=none:=by
     rw [List.find?_eq_none]
     have:=List.findIdx?_eq_none_iff.1 h
     intro x hx;simpa using this x hx
   rw [this];rfl
  |some i=>
   obtain ⟨hi,h1,h2⟩:=List.findIdx?_eq_some_iff_getElem.1 h
   have:z.Parts.find? (fun p=>p.Lane_==k)=some z.Parts[i]:=by
     rw [List.find?_eq_some_iff_getElem]
     exact ⟨h1,i,hi,rfl,fun j hj=>by simpa using h2 j hj⟩
   rw [this]
   dsimp only
   rw [show decide ((i:Int)<0)=false from bH (by omega),bM,iD hi];rfl
structure ZoneOK (m:Map)(z:Zone):Prop where
  two:2≤z.Parts.length
  six:z.Parts.length≤6
  sig:0≤z.Signal_∧z.Signal_≤m.Signals.length
  rise:Cq m.Lanes.length 0 (z.Parts.map (·.Lane_))=true
  part: ∀p∈z.Parts,0≤p.From∧p.From<p.To∧p.To≤Q5 m p.Lane_∧0≤p.Rank∧p.Rank≤100
theorem YK {m:Map}{i:Nat}{z:Zone}(h:zoneE m i z=none):ZoneOK m z:=by
  unfold zoneE at h
  split at h
  ·cases h
  ·rename_i h1
   split at h
   ·cases h
   ·rename_i h2
    split at h
    ·cases h
    ·rename_i h3
     split at h
     ·cases h
     ·rename_i h4
      split at h
      ·cases h
      ·rename_i h5
       refine ⟨by omega,by omega,by omega,by simpa using h4,fun p hp=> ?_⟩
       have:=List.any_eq_false.1 (bX.2 h5) p hp
       simp only [Vm,bT,bI,not_or,Int.not_lt,Int.not_le,ge_iff_le,gt_iff_lt]at this
       omega
theorem ValR.zoneOK {m:Map}(V:ValR m){z:Zone}(hz:z∈m.Zones):ZoneOK m z:=by
  obtain ⟨i,hi,rfl⟩:=List.mem_iff_getElem.1 hz
  have:=firstE_none.1 V.zoneE i _ (lH hi)
  exact YK this
theorem ZoneOK.lane {m:Map}{z:Zone}(O:ZoneOK m z){p:Part}(hp:p∈z.Parts):0≤p.Lane_∧p.Lane_<m.Lanes.length:=Mc O.rise p.Lane_ (List.mem_map.2 ⟨p,hp,rfl⟩)
theorem aE {m:Map}{k:Int}(h0:0≤k)(h1:k<m.Zones.length): ∃z,m.Zones[k.toNat]? =some z∧C3 m.Zones k=some z:=by
  have hlt:k.toNat<m.Zones.length:=by omega
  refine ⟨m.Zones[k.toNat],lH hlt,?_⟩
  unfold C3
  rw [bN h0,lH hlt]
theorem jL:Ic=some true:=law04_awake_le _ (by decide+kernel)
theorem Gv (n:Int){m:Int}(hm:0<m):0≤n % m∧n % m<m:=⟨wP n (by omega),wQ n hm⟩
theorem IB {n m:Int}(hm:0<m):n % m=if n.tmod m<0 then n.tmod m+m else n.tmod m:=by
  have a:=wP n (show m≠0 by omega)
  have b:=wQ n hm
  rw [Int.tmod_eq_emod]
  by_cases q:0≤n∨m ∣ n
  ·rw [bN q,bO (by omega)];omega
  ·rw [bO q]
   have:n % m≠0:=fun e=>q (.inr (Int.dvd_of_emod_eq_zero e))
   rw [bN (by omega)];omega
theorem Us {n m:Int}(hm:0<m)(hm2:m≤9223372036854775807):Sw n m=some (n % m):=by
  have h1:=IB (n:=n) hm
  have a:=Gv n hm
  unfold Sw Re
  rw [bO (by omega),lB]
  by_cases q:n.tmod m<0
  ·rw [bN q]at h1
   rw [bG q,bK,E6 (by omega),← h1]
  ·rw [bO q]at h1
   rw [bH q,bM,← h1]
theorem Tb {n m:Int}(hm:0<m)(hm2:m≤9223372036854775807):Ob n m=some (n % m):=by
  have h1:=IB (n:=n) hm
  have a:=Gv n hm
  unfold Ob Re
  rw [bO (by omega),lB]
  by_cases q:n.tmod m<0
  ·rw [bN q]at h1
   rw [bG q,bK,E6 (by omega),← h1]
  ·rw [bO q]at h1
   rw [bH q,bM,← h1]
def SN (kind lim:Int)(next:List Int)(a b c d:Int):Lane:=⟨kind,⟨[⟨a,b⟩,⟨c,d⟩]⟩,if kind=3 then 500 else 1500,lim,next⟩
theorem nV (kind lim:Int)(next:List Int)(a b c d:Int):U6 kind lim next [a,b,c,d]=some (SN kind lim next a b c d):=by
  unfold U6 SN
  rw [H8 (s':=(2,[⟨a,b⟩])) rfl,H8 (s':=(4,[⟨a,b⟩,⟨c,d⟩])) rfl,D2 (t:= [⟨a,b⟩,⟨c,d⟩]) rfl,lB]
  by_cases h:kind=3
  ·rw [bN h,h];rfl
  ·rw [bO h,show (kind==3)=false by simpa using h];rfl
def rG (off a b:Int):Signal:=⟨off,[⟨12,[a]⟩,⟨5,[]⟩,⟨9,[b]⟩,⟨4,[]⟩]⟩
/-- The numbers of which a map of the kit is made. -/
structure Par where
  lim:Int
  r:Int
  o:Int
  o':Int
  ver:Int
  wk:List Work
structure ParOK (p:Par):Prop where
  lim:p.lim=1500∨p.lim=600∨p.lim=1000∨p.lim=300
  r:p.r=0∨p.r=1
  o:0≤p.o∧p.o<31
  o':0≤p.o'∧p.o'<31
  ver:0≤p.ver∧p.ver<5
  wk:p.wk= []∨∃b l,0≤b∧b<40∧0≤l∧l≤400∧p.wk= [⟨0,10000,15000,b,b+20,l⟩]
def Nr (k:Nat)(lim:Int):List Lane:=match k with
  |0=> [SN 1 lim [] 0 0 60000 0]
  |1|2=> [SN 1 lim [] 0 0 50000 0,SN 1 1500 [] 30000 (-20000) 30000 20000]
  |3=> [SN 1 lim [1,2] 0 0 30000 0,SN 1 1500 [] 30000 0 60000 0,SN 1 800 [] 30000 0 54000 10000]
  |4=> [SN 1 lim [2] 0 0 30000 0,SN 1 1500 [2] 6000 (-10000) 30000 0,SN 1 1500 [] 30000 0 60000 0]
  |5=> [SN 1 lim [1] 0 0 20000 0,SN 1 lim [] 20000 0 50000 0,SN 3 200 [] 35000 (-8000) 35000 8000]
  |_=> [SN 1 lim [1,2] 0 0 20000 0,SN 1 1500 [] 20000 0 50000 0,SN 1 1000 [] 20000 0 44000 10000,SN 2 700 [] 36000 (-12000) 36000 18000]
def EL (k:Nat)(r:Int):List Zone:=match k with
  |1=> [⟨[⟨0,28000,32000,r⟩,⟨1,18000,22000,2 - 2*r⟩],0⟩]
  |2=> [⟨[⟨0,28000,32000,r⟩,⟨1,18000,22000,2 - 2*r⟩],1⟩]
  |4=> [⟨[⟨0,25000,30000,1⟩,⟨1,20000,26000,0⟩,⟨2,0,5000,0⟩],0⟩]
  |5=> [⟨[⟨1,14000,16000,0⟩,⟨2,6000,10000,3⟩],0⟩]
  |6=> [⟨[⟨1,14000,18000,1⟩,⟨3,10000,14000,0⟩],0⟩,⟨[⟨2,14000,21000,1⟩,⟨3,14500,23000,0⟩],0⟩]
  |7=> [⟨[⟨1,14000,18000,1⟩,⟨3,10000,14000,0⟩],1⟩,⟨[⟨2,14000,21000,1⟩,⟨3,14500,23000,0⟩],2⟩]
  |_=> []
def Ww (k:Nat)(o o':Int):List Signal:=match k with
  |2=> [rG o 0 1]
  |7=> [rG o 1 3,rG o' 2 3]
  |_=> []
def GN (k:Nat)(p:Par):Map:=⟨p.ver,Nr k p.lim,EL k p.r,Ww k p.o p.o',p.wk⟩
theorem YL (n:Int): ∃k p,k<8∧ParOK p∧BZ n=some (GN k p):=by
  obtain ⟨h0,h1⟩:=Gv n (show (0:Int)<16777216 by decide)
  unfold BZ
  rw [Us (by decide) (by decide),lB]
  generalize n % 16777216=v at h0 h1
  have t: ∀m:Int,0<m→v.tdiv m=v / m:=fun m hm=>by rw [wN h0]
  have u: ∀x m:Int,0≤x→x.tmod m=x % m:=fun x m hx=>by rw [wO hx]
  have d: ∀m:Int,0<m→0≤v / m∧v / m<16777216:=fun m hm=>⟨Int.ediv_nonneg h0 (by omega),Int.lt_of_le_of_lt (Int.ediv_le_self m h0) h1⟩
  have W: ∀m:Int,0<m→D4 (v / m)=v / m:=fun m hm=>E6 (by have:=d m hm;omega)
  rw [t 7 (by decide),t 28 (by decide),t 56 (by decide),t 1736 (by decide),t 5208 (by decide),t 208320 (by decide)]
  rw [W 7 (by decide),W 28 (by decide),W 56 (by decide),W 1736 (by decide),W 5208 (by decide),W 208320 (by decide)]
  rw [u (v / 7) _ (d 7 (by decide)).1,u (v / 28) 2 (d 28 (by decide)).1,u (v / 28) 31 (d 28 (by decide)).1,u (v / 56) 31 (d 56 (by decide)).1,u (v / 56) 17 (d 56 (by decide)).1,u (v / 1736) _ (d 1736 (by decide)).1,u (v / 5208) _ (d 5208 (by decide)).1,u (v / 208320) _ (d 208320 (by decide)).1,u v _ h0,u (v / 28) 5 (d 28 (by decide)).1]
  have b1:=Gv (v / 7) (show (0:Int)<4 by decide)
  have b2:=Gv (v / 28) (show (0:Int)<2 by decide)
  have b3:=Gv (v / 28) (show (0:Int)<31 by decide)
  have b4:=Gv (v / 56) (show (0:Int)<31 by decide)
  have b5:=Gv (v / 56) (show (0:Int)<17 by decide)
  have b6:=Gv (v / 5208) (show (0:Int)<40 by decide)
  have b7:=Gv (v / 208320) (show (0:Int)<3 by decide)
  have b8:=Gv v (show (0:Int)<7 by decide)
  have b9:=Gv (v / 28) (show (0:Int)<5 by decide)
  generalize v / 7 % 4=q1 at b1
  generalize v / 28 % 2=q2 at b2
  generalize v / 28 % 31=q3 at b3
  generalize v / 56 % 31=q4 at b4
  generalize v / 56 % 17=q5 at b5
  generalize v / 5208 % 40=q6 at b6
  generalize v / 208320 % 3=q7 at b7
  generalize v % 7=q8 at b8
  generalize v / 28 % 5=q9 at b9
  have e1: ∃lim:Int,C3 ([1500,600,1000,300]:List Int) q1=some lim∧(lim=1500∨lim=600∨lim=1000∨lim=300):=by
    rcases (show q1=0∨q1=1∨q1=2∨q1=3 by omega)with rfl|rfl|rfl|rfl
    ·exact ⟨1500,rfl,by decide⟩
    ·exact ⟨600,rfl,by decide⟩
    ·exact ⟨1000,rfl,by decide⟩
    ·exact ⟨300,rfl,by decide⟩
  obtain ⟨lim,e1,hlim⟩:=e1
  rw [e1,lB]
  have ew: ∀(L:List Lane) (Z:List Zone) (S:List Signal),∃wk,(wk= []∨∃b l,0≤b∧b<40∧0≤l∧l≤400∧wk= [⟨0,10000,15000,b,b+20,l⟩])∧
   (cond (v / 1736 % 3==1) (some (Map.mk q9 L Z S [(Work.mk 0 10000 15000 q6 (D4 (q6+20)) (D4 (q7*200)))])) (some (Map.mk q9 L Z S [])))=some ⟨q9,L,Z,S,wk⟩:=by
    intro L Z S
    cases v / 1736 % 3==1
    ·exact ⟨[], .inl rfl,rfl⟩
    ·exact ⟨[⟨0,10000,15000,q6,q6+20,q7*200⟩], .inr ⟨q6,q7*200,by omega,by omega,by omega,by omega,rfl⟩,by rw [E6 (by omega),E6 (by omega)];rfl⟩
  have er:D4 (2 - D4 (2*q2))=2 - 2*q2:=by rw [E6 (n:=2*q2) (by omega),E6 (by omega)]
  rw [er]
  simp only [nV,lB]
  have fin: ∀(k:Nat) (o o':Int) (L:List Lane) (Z:List Zone) (S:List Signal),k<8→0≤o∧o<31→0≤o'∧o'<31→L=Nr k lim→Z=EL k q2→S=Ww k o o'→∃k p,k<8∧ParOK p∧(cond (v / 1736 % 3==1) (some (Map.mk q9 L Z S [(Work.mk 0 10000 15000 q6 (D4 (q6+20)) (D4 (q7*200)))])) (some (Map.mk q9 L Z S [])))=some (GN k p):=by
    intro k o o' L Z S hk h1 h2 e1 e2 e3
    obtain ⟨wk,w1,w2⟩:=ew L Z S
    subst e1 e2 e3
    exact ⟨k,⟨lim,q2,o,o',q9,wk⟩,hk,⟨hlim,by dsimp only;omega,h1,h2,b9,w1⟩,w2⟩
  rcases (show q8=0∨q8=1∨q8=2∨q8=3∨q8=4∨q8=5∨q8=6 by omega)with rfl|rfl|rfl|rfl|rfl|rfl|rfl
  ·exact fin 0 0 0 _ _ _ (by decide) (by decide) (by decide) rfl rfl rfl
  ·exact fin 1 0 0 _ _ _ (by decide) (by decide) (by decide) rfl rfl rfl
  ·exact fin 2 q3 0 _ _ _ (by decide) b3 (by decide) rfl rfl rfl
  ·exact fin 3 0 0 _ _ _ (by decide) (by decide) (by decide) rfl rfl rfl
  ·exact fin 4 0 0 _ _ _ (by decide) (by decide) (by decide) rfl rfl rfl
  ·exact fin 5 0 0 _ _ _ (by decide) (by decide) (by decide) rfl rfl rfl
  ·rcases (show q2=0∨q2=1 by omega)with rfl|rfl
   ·exact fin 6 0 0 _ _ _ (by decide) (by decide) (by decide) rfl rfl rfl
   ·exact fin 7 q4 q5 _ _ _ (by decide) b4 (by omega) rfl rfl rfl
theorem dI:((List.range 8).all fun k=>([1500,600,1000,300]:List Int).all fun lim=>([0,1]:List Int).all fun r=>(@Cc V9) (GN k ⟨lim,r,0,0,0,[]⟩)==some 0)=true:=by decide+kernel
theorem VM (k:Nat)(lim:Int):(Nr k lim).length≤4∧∀l∈Nr k lim,l.Curve_.Pts.length=2∧l.Next.length≤2:=by
  unfold Nr
  split<;>simp [SN]
theorem JC (k:Nat)(r:Int):(EL k r).length≤2∧∀z∈EL k r,z.Parts.length≤3:=by
  unfold EL
  split<;>simp
theorem YM (k:Nat)(o o':Int):(Ww k o o').length≤2∧∀s∈Ww k o o',s.Phases.length=4∧∀p∈s.Phases,p.Green.length≤1:=by
  unfold Ww
  split<;>simp [rG]
theorem aF {m:Map}{k:Nat}{lim r o o':Int}(h1:m.Lanes=Nr k lim)(h2:m.Zones=EL k r)(h3:m.Signals=Ww k o o')(h4:m.Works.length≤1):BearM m:=by
  obtain ⟨a1,a2⟩:=VM k lim
  obtain ⟨b1,b2⟩:=JC k r
  obtain ⟨c1,c2⟩:=YM k o o'
  refine ⟨⟨by rw [h1];omega,fun l hl=> ?_⟩,⟨by rw [h3];omega,fun s hs=>⟨?_,fun p hp=> ?_⟩⟩,⟨by rw [h2];omega,fun z hz=> ?_⟩,⟨by omega⟩⟩
  ·rw [h1]at hl;have:=a2 l hl;omega
  ·rw [h3]at hs;have:=(c2 s hs).1;omega
  ·rw [h3]at hs;have:=(c2 s hs).2 p hp;omega
  ·rw [h2]at hz;have:=b2 z hz;omega
theorem ParOK.wk1 {p:Par}(h:ParOK p):p.wk.length≤1:=by
  rcases h.wk with e|⟨b,l,_,_,_,_,e⟩<;>rw [e]<;>simp
theorem jM {k:Nat}{p:Par}(h:ParOK p):BearM (GN k p):=aF rfl rfl rfl h.wk1
theorem sC {k:Nat}{p:Par}(hk:k<8)(h:ParOK p):ValR (GN k ⟨p.lim,p.r,0,0,0,[]⟩):=by
  have h1:=l6.1 dI k (List.mem_range.2 hk)
  have h2:=l6.1 h1 p.lim (by have:=h.lim;simp;omega)
  have h3:=l6.1 h2 p.r (by have:=h.r;simp;omega)
  have h4:=roads_Check_le _ _ (eq_of_beq h3)
  have h5:=Ph (m:=GN k ⟨p.lim,p.r,0,0,0,[]⟩) (aF rfl rfl rfl (wG 1))
  rw [h4]at h5
  exact chkR_zero.1 (lD h5).symm
/-- Another version, other offsets, other works. -/
theorem ValR.change {L:List Lane}{Z:List Zone}{S S':List Signal}{W W':List Work}{v v':Int}(V:ValR ⟨v,L,Z,S,W⟩)(hv:0≤v'∧v'≤1099511627776)(hl:S'.length=S.length)(hs: ∀s∈S',World.signalE ⟨v,L,Z,S,W⟩ 0 s=none)(hw:W'.length≤8)(hw': ∀w∈W',World.workE ⟨v,L,Z,S,W⟩ 0 w=none):ValR ⟨v',L,Z,S',W'⟩:=by
  refine ⟨hv,V.pos,V.lanes,V.zones,by show S'.length≤4;rw [hl];exact V.signals,hw,V.laneE,V.nextE,?_,?_,?_⟩
  ·rw [firstE_none]
   intro j a ha
   exact hs a (lG ha)
  ·have:=V.zoneE
   rw [firstE_none]at this ⊢
   intro j a ha
   have:=this j a ha
   unfold World.zoneE at this ⊢
   dsimp only at this ⊢
   rw [hl]
   exact this
  ·rw [firstE_none]
   intro j a ha
   exact hw' a (lG ha)
theorem dJ (k:Nat)(o o' a a':Int):(Ww k o o').length=(Ww k a a').length:=by unfold Ww;split<;>rfl
theorem jN {k:Nat}{o o':Int}(h:0≤o∧o<31)(h':0≤o'∧o'<31){m:Map}(hm:m.Lanes.length=(Nr k 0).length): ∀s∈Ww k o o',signalE m 0 s=none:=by
  have key: ∀(off a b:Int),0≤off∧off<31→0≤a∧a<m.Lanes.length→0≤b∧b<m.Lanes.length→signalE m 0 (rG off a b)=none:=by
    intro off a b h1 h2 h3
    unfold signalE rG
    simp only [lL,lN]
    rw [bO (by decide),bO (by decide),bO (by simp [Wf];omega),bO (by simp [Wf]),bO]
    simp only [List.any_cons,List.any_nil,Cq,bQ,Bool.or_false,bU,bW,bT,Bool.not_eq_true',not_or,Bool.not_eq_false,bS,bI]
    omega
  intro s hs
  unfold Ww at hs
  split at hs
  ·rw [show (Nr 2 0).length=2 from rfl]at hm
   simp only [bF]at hs
   subst hs
   exact key _ _ _ h (by omega) (by omega)
  ·rw [show (Nr 7 0).length=4 from rfl]at hm
   simp only [lU,List.not_mem_nil,or_false]at hs
   rcases hs with rfl|rfl
   ·exact key _ _ _ h (by omega) (by omega)
   ·exact key _ _ _ h' (by omega) (by omega)
  ·cases hs
theorem YN (k:Nat)(lim:Int):(Nr k lim).length=(Nr k 0).length:=by unfold Nr;split<;>rfl
theorem CB (c:Int)(h:(@Dk V9) ⟨[⟨0,0⟩,⟨c,0⟩]⟩=some c):Ta ⟨[⟨0,0⟩,⟨c,0⟩]⟩=c:=by
  have h1:=curve_Length_le _ _ h
  rw [Yr _ (by simp)]at h1
  exact lD h1
/-- The first lane of a map of the kit: a road, long enough. -/
theorem JD (k:Nat)(lim:Int): ∃l,(Nr k lim)[0]? =some l∧l.Kind=1∧l.Limit=lim∧20000≤Ta l.Curve_∧Ta l.Curve_≤60000:=by
  have e6:=CB 60000 (by decide+kernel)
  have e5:=CB 50000 (by decide+kernel)
  have e3:=CB 30000 (by decide+kernel)
  have e2:=CB 20000 (by decide+kernel)
  unfold Nr
  split
  ·exact ⟨_,rfl,rfl,rfl,by show 20000≤Ta ⟨[⟨0,0⟩,⟨60000,0⟩]⟩∧Ta ⟨[⟨0,0⟩,⟨60000,0⟩]⟩≤60000;rw [e6];decide⟩
  ·exact ⟨_,rfl,rfl,rfl,by show 20000≤Ta ⟨[⟨0,0⟩,⟨50000,0⟩]⟩∧Ta ⟨[⟨0,0⟩,⟨50000,0⟩]⟩≤60000;rw [e5];decide⟩
  ·exact ⟨_,rfl,rfl,rfl,by show 20000≤Ta ⟨[⟨0,0⟩,⟨50000,0⟩]⟩∧Ta ⟨[⟨0,0⟩,⟨50000,0⟩]⟩≤60000;rw [e5];decide⟩
  ·exact ⟨_,rfl,rfl,rfl,by show 20000≤Ta ⟨[⟨0,0⟩,⟨30000,0⟩]⟩∧Ta ⟨[⟨0,0⟩,⟨30000,0⟩]⟩≤60000;rw [e3];decide⟩
  ·exact ⟨_,rfl,rfl,rfl,by show 20000≤Ta ⟨[⟨0,0⟩,⟨30000,0⟩]⟩∧Ta ⟨[⟨0,0⟩,⟨30000,0⟩]⟩≤60000;rw [e3];decide⟩
  ·exact ⟨_,rfl,rfl,rfl,by show 20000≤Ta ⟨[⟨0,0⟩,⟨20000,0⟩]⟩∧Ta ⟨[⟨0,0⟩,⟨20000,0⟩]⟩≤60000;rw [e2];decide⟩
  ·exact ⟨_,rfl,rfl,rfl,by show 20000≤Ta ⟨[⟨0,0⟩,⟨20000,0⟩]⟩∧Ta ⟨[⟨0,0⟩,⟨20000,0⟩]⟩≤60000;rw [e2];decide⟩
theorem sD {m:Map}{l:Lane}(hl:m.Lanes[0]? =some l)(hk:l.Kind=1){w:Work}(h:w.Lane_=0∧0≤w.From∧w.From≤w.To∧w.To≤Ta l.Curve_∧0≤w.Begin∧w.Begin<w.End∧w.End≤1099511627776∧0≤w.Limit∧w.Limit≤2000):workE m 0 w=none:=by
  obtain ⟨h1,h2,h3,h4,h5,h6,h7,h8,h9⟩:=h
  have hlen:=J1 hl
  unfold workE Q5
  rw [h1,show ((0:Int).toNat)=0 from rfl,hl,bO (by omega),bO]
  simp only [lF,Option.getD_some,Option.get!_some,hk,Wf,Hp,if_true,bT,bI,Bool.not_eq_true',not_or,Bool.not_eq_false,bS]
  omega
/-- A map of the kit is valid, with such works. -/
theorem jO {k:Nat}{p:Par}(hk:k<8)(h:ParOK p){W:List Work}(hw:W.length≤8)(hW: ∀w∈W,w.Lane_=0∧0≤w.From∧w.From≤w.To∧w.To≤Q5 (GN k p) 0∧0≤w.Begin∧w.Begin<w.End∧w.End≤1099511627776∧0≤w.Limit∧w.Limit≤2000):ValR ⟨p.ver,Nr k p.lim,EL k p.r,Ww k p.o p.o',W⟩:=by
  have V:=sC hk h
  obtain ⟨l,l1,l2,l3,l4,l5⟩:=JD k p.lim
  have hv:=h.ver
  refine ValR.change (v:=0) (S:=Ww k 0 0) (W:= []) V (by omega) (dJ k _ _ _ _) (fun s hs=>jN h.o h.o' (by exact YN k p.lim) s hs) hw (fun w hwm=> ?_)
  obtain ⟨a1,a2,a3,a4,a5,a6,a7,a8,a9⟩:=hW w hwm
  refine sD (l:=l) l1 l2 ⟨a1,a2,a3,?_,a5,a6,a7,a8,a9⟩
  have:Q5 (GN k p) 0=Ta l.Curve_:=by
    unfold Q5 GN
    dsimp only
    rw [show ((0:Int).toNat)=0 from rfl,l1];rfl
  omega
theorem dK (k:Nat)(p:Par):20000≤Q5 (GN k p) 0∧Q5 (GN k p) 0≤60000:=by
  obtain ⟨l,l1,l2,l3,l4,l5⟩:=JD k p.lim
  unfold Q5 GN
  dsimp only
  rw [show ((0:Int).toNat)=0 from rfl,l1]
  exact ⟨l4,l5⟩
theorem nW {k:Nat}{p:Par}(hk:k<8)(h:ParOK p):ValR (GN k p):=by
  have hl:=dK k p
  refine jO hk h (wJ h.wk1 (by decide)) (fun w hw=> ?_)
  rcases h.wk with e|⟨b,l,h1,h2,h3,h4,e⟩
  ·rw [e]at hw;cases hw
  ·rw [e]at hw
   simp only [bF]at hw
   subst hw
   dsimp only
   omega
/-! ### Limits -/
end Go.Abs.World
namespace Go.Abs
theorem Cs {α β:Type}{g:Nat→α→Option β}{x:β}: ∀{l:List α} {i:Nat},x∈Bi g i l↔∃j a,l[j]? =some a∧g (i+j) a=some x
  | [],i=>by simp [Bi]
  |a::r,i=>by
   unfold Bi
   have ih:=Cs (g:=g) (x:=x) (l:=r) (i:=i+1)
   have sh:(∃j b,(a::r)[j]? =some b∧g (i+j) b=some x)↔g i a=some x∨∃j b,r[j]? =some b∧g (i+1+j) b=some x:=by
     constructor
     ·rintro ⟨j,b,h1,h2⟩
      cases j with
      |zero=>simp at h1;subst h1;exact .inl h2
      |succ j=>exact .inr ⟨j,b,by simpa using h1,by rwa [show i+1+j=i+ (j+1) by omega]⟩
     ·rintro (h|⟨j,b,h1,h2⟩)
      ·exact ⟨0,a,rfl,h⟩
      ·exact ⟨j+1,b,by simpa using h1,by rwa [show i+ (j+1)=i+1+j by omega]⟩
   rw [sh,← ih]
   cases h:g i a with
   |none=>simp
   |some b=>simp [eq_comm]
end Go.Abs
namespace Go.Abs.World
open Go Go.Abs
theorem mem_before {m:Map}{k x:Int}:x∈Cr m k↔∃(i:Nat) (l:Lane),m.Lanes[i]? =some l∧k∈l.Next∧x=(i:Int):=by
  unfold Cr
  rw [Cs]
  refine exists_congr fun i=>exists_congr fun l=>and_congr_right fun _=> ?_
  rw [wI]
  by_cases h:l.Next.contains k=true
  ·rw [bN h]
   simp only [Option.some.injEq]
   exact ⟨fun e=>⟨by simpa using h,e.symm⟩,fun e=>e.2.symm⟩
  ·rw [bO h]
   simp only [reduceCtorEq,false_iff,not_and]
   intro hk
   exact absurd (by simpa using hk) h
theorem mem_origins {m:Map}{x:Int}:x∈T7 m↔0≤x∧x<m.Lanes.length∧Cr m x= []:=by
  unfold T7
  rw [Cs]
  constructor
  ·rintro ⟨i,l,h1,h2⟩
   have:=J1 h1
   split at h2
   ·rename_i h
    cases h2
    rw [wI]at h ⊢
    exact ⟨by omega,by omega,l9 h⟩
   ·cases h2
  ·rintro ⟨h0,h1,h2⟩
   have hlt:x.toNat<m.Lanes.length:=by omega
   refine ⟨x.toNat,m.Lanes[x.toNat],lH hlt,?_⟩
   rw [wI,show ((x.toNat:Nat):Int)=x by omega,h2];rfl
theorem SO {m:Map}(V:ValR m){p k:Int}(h:p∈Cr m k):0≤p∧p<k∧k<m.Lanes.length∧Ur m p.toNat k=true:=by
  obtain ⟨i,l,h1,h2,rfl⟩:=mem_before.1 h
  have hk:=V.next h1 h2
  refine ⟨by omega,hk.1,hk.2,?_⟩
  rw [CA V,l7,wD]
  refine ⟨k,by unfold nextOf;rw [h1];exact h2,by simp⟩
/-- Each lane is a source, or a source leads to it. -/
theorem QG {m:Map}(V:ValR m): ∀(n:Nat) (a:Int),0≤a→a<m.Lanes.length→a<n→∃s∈T7 m,s=a∨Ur m s.toNat a=true
  |0,a,h0,h1,h2=>by omega
  |n+1,a,h0,h1,h2=>by
   cases hb:Cr m a with
   |nil=>exact ⟨a,mem_origins.2 ⟨h0,h1,hb⟩, .inl rfl⟩
   |cons p r=>
    obtain ⟨p0,p1,p2,p3⟩:=SO V (show p∈Cr m a by rw [hb];simp)
    obtain ⟨s,s1,s2⟩:=QG V n p p0 (by omega) (by omega)
    refine ⟨s,s1, .inr ?_⟩
    rcases s2 with rfl|s2
    ·exact p3
    ·have e:((p.toNat:Nat):Int)=p:=by omega
     exact JA V (b:=p.toNat) p3 m.Lanes.length s.toNat (by omega) (by rw [e];exact s2)
/-! ### How long lanes are -/
theorem jP: ∀(l:List Int) (s:Int),(∀x∈l,0≤x∧x≤1048576)→0≤s→s+1048576*l.length≤9000000000000000000→s≤Xz s l∧Xz s l≤s+1048576*l.length
  | [],s,_,_,_=>by simp [Xz]
  |a::r,s,h,h0,h1=>by
   have ha:=h a (by simp)
   simp only [lL]at h1 ⊢
   rw [Xz,E6 (by omega)]
   have:=jP r (s+a) (fun x hx=>h x (by simp [hx])) (by omega) (by omega)
   omega
theorem jQ: ∀{l:List Spot} {last:Option CurveVector},Good last l→∀x∈Ad l,1000≤x∧x≤1048576:=by
  intro l last h
  induction h with
  |one last p=>intro x hx;simp [Ad]at hx
  |cons last p q r h1 h2 h3 h4 h ih=>
   intro x hx
   rw [Tm,lU]at hx
   rcases hx with rfl|hx
   ·exact ⟨h2,h3⟩
   ·exact ih x hx
theorem nX {c:Curve}(h:Be c.Pts=0):1000≤Ta c∧Ta c≤16777216:=by
  have V:=checkM_zero.1 h
  unfold Ta Ev
  rw [bN h]
  have h16:=V.most
  have h2:=V.two
  have hm:=jQ V.good
  cases hp:c.Pts with
  |nil=>rw [hp]at h2;simp at h2
  |cons p r=>
   rw [hp]at hm h16 h2
   cases r with
   |nil=>simp at h2
   |cons q r=>
    simp only [lL]at h16
    rw [Tm]at hm ⊢
    have ha:=hm _ (List.mem_cons_self)
    have hl:=Ig r q
    rw [Xz,E6 (by omega),Int.zero_add]
    have:=jP (Ad (q::r)) (rt (M8 (N9 p q) (N9 p q))) (fun x hx=>by have:=hm x (List.mem_cons_of_mem _ hx);omega) (by omega) (by rw [hl];omega)
    rw [hl]at this
    omega
theorem ValR.long {m:Map}(V:ValR m){k:Int}(h0:0≤k)(h1:k<m.Lanes.length):1000≤Q5 m k∧Q5 m k≤16777216:=by
  obtain ⟨l,e1,e2⟩:=Vn h0 h1
  unfold Q5
  rw [e1]
  exact nX (V.laneOK e1).curve
/-! ### Routes -/
def Kd (m:Map):Int→List Int→Bool
  |_,[]=>true
  |a,b::r=>(nextOf m a.toNat).contains b&&Kd m b r
noncomputable def P2 (m:Map)(r:List Int):Int:=
  if Wv m≠0 then Wv m
  else match r with
    | []=>13
    |a::t=>if 7<t.length∨a<0∨(m.Lanes.length:Int)≤a∨Cr m a≠ []∨Kd m a t=false then 13 else 0
/-- What a route is. -/
structure RouteOK (m:Map)(a:Int)(t:List Int):Prop where
  val:ValR m
  most:t.length≤7
  first:0≤a∧a<m.Lanes.length
  source:Cr m a= []
  chain:Kd m a t=true
theorem chkRoute_zero {m:Map}{r:List Int}:P2 m r=0↔∃a t,r=a::t∧RouteOK m a t:=by
  unfold P2
  constructor
  ·intro h
   split at h
   ·exact absurd h (by assumption)
   ·rename_i h1
    have V:=chkR_zero.1 (Decidable.not_not.1 h1)
    split at h
    ·cases h
    ·rename_i a t
     split at h
     ·cases h
     ·rename_i h2
      exact ⟨a,t,rfl,V,by omega,by omega,Decidable.not_not.1 fun q=>h2 (.inr (.inr (.inr (.inl q)))),by
        cases q:Kd m a t with
        |true=>rfl
        |false=>exact absurd (.inr (.inr (.inr (.inr q)))) h2⟩
  ·rintro ⟨a,t,rfl,V,h1,h2,h3,h4⟩
   rw [bO (by rw [chkR_zero.2 V];simp)]
   dsimp only
   rw [bO]
   rintro (q|q|q|q|q)
   ·omega
   ·omega
   ·omega
   ·exact q h3
   ·rw [h4]at q;cases q
theorem QH {m:Map}(V:ValR m): ∀{t:List Int} {a:Int},Kd m a t=true→0≤a→∀x∈t,a<x∧x<m.Lanes.length
  | [],_,_,_,x,hx=>by cases hx
  |b::r,a,h,h0,x,hx=>by
   rw [Kd,bS,List.contains_iff_mem]at h
   have hb:=V.nextOf h.1
   rcases lU.1 hx with rfl|hx
   ·omega
   ·have:=QH V h.2 (by omega) x hx;omega
theorem RouteOK.mem {m:Map}{a:Int}{t:List Int}(R:RouteOK m a t){x:Int}(hx:x∈a::t):0≤x∧x<m.Lanes.length:=by
  have:=R.first
  rcases lU.1 hx with rfl|hx
  ·exact this
  ·have:=QH R.val R.chain (by omega) x hx;omega
theorem YO {m:Map}(B:BearM m)(V:ValR m)(l:List Int)(hl:l.length≤1000000): ∀(r:List Int) (i:Nat) (a:Int),l.drop i=r→i≤l.length→0≤a→a<m.Lanes.length→loop (Q4 m l) (a,(i:Int))=some (if Kd m a r=true then .inl ()else .inr 13):=by
  intro r
  induction r with
  |nil=>
   intro i a hi hil h0 h1
   have:=N0 hi
   obtain rfl:i=l.length:=by omega
   refine D2 ?_
   unfold Q4
   rw [J2];rfl
  |cons b r ih=>
   intro i a hi hil h0 h1
   have hlt:=L3 hi
   have hb:=S6 hi
   obtain ⟨ln,e1,e2⟩:=Vn h0 h1
   have hs:Q4 m l (a,(i:Int))=some (if ln.Next.contains b=true then .go (b,((i+1:Nat):Int))else .out (.inr 13)):=by
     unfold Q4
     dsimp only
     rw [K7 hlt,C9 hb,bK,lB,e2,lB,BM _ (B.toBear.pts _ (lG e1)).2,lB,H5 hlt (by omega)]
     cases ln.Next.contains b<;>rfl
   have hn:nextOf m a.toNat=ln.Next:=by unfold nextOf;rw [e1];rfl
   rw [Kd,hn]
   cases q:ln.Next.contains b
   ·rw [q]at hs;rw [D2 hs];rfl
   ·rw [q]at hs
    have hbm:=V.next e1 (List.contains_iff_mem.1 q)
    rw [H8 hs,ih (i+1) b (I4 hi) (by omega) (by omega) (by omega),bP]
theorem DL {m:Map}(B:BearM m)(r:List Int)(hr:r.length≤1000000):X4 m r=some (P2 m r):=by
  unfold X4 P2
  rw [Ph B,lB]
  by_cases q:Wv m=0
  ·have V:=chkR_zero.1 q
   rw [bO (by simpa using q),show (Wv m !=0)=false by simpa using q,bM]
   cases r with
   |nil=>rfl
   |cons a t=>
    dsimp only
    simp only [lL]at hr ⊢
    by_cases h8:7<t.length
    ·rw [bN (.inl h8),show ((((t.length+1:Nat):Int)==0)||(decide (((t.length+1:Nat):Int)>8)))=true by simp;omega];rfl
    ·rw [show ((((t.length+1:Nat):Int)==0)||(decide (((t.length+1:Nat):Int)>8)))=false by simp;omega]
     rw [show C3 (a::t) 0=some a from rfl]
     simp only [bV,bK,lB,bW]
     by_cases h0:a<0
     ·rw [bN (.inr (.inl h0)),bG h0];rfl
     ·rw [bH h0]
      simp only [bV,bK,lB,bW]
      by_cases h1:(m.Lanes.length:Int)≤a
      ·rw [bN (.inr (.inr (.inl h1))),show decide (a≥(m.Lanes.length:Int))=true from bG h1];rfl
      ·rw [show decide (a≥(m.Lanes.length:Int))=false from bH (by omega)]
       simp only [bV,bK,bW]
       rw [lB,dH B,lB]
       by_cases hb:Cr m a= []
       ·rw [hb]
        have e1:cG (a::t) 1 ((t.length+1:Nat):Int)=some t:=by
          unfold cG
          rw [bN (by simp;omega)]
          simp
        rw [e1,show decide ((([]:List Int).length:Int)>0)=false from rfl,bM,lB]
        have:=YO B V t (by omega) t 0 a rfl (by omega) (by omega) (by omega)
        rw [show ((0:Nat):Int)=0 from rfl]at this
        rw [this]
        by_cases hc:Kd m a t=true
        ·rw [bN hc,bO (by rw [hc];simp;omega)];rfl
        ·rw [bO hc,bN (.inr (.inr (.inr (.inr (by simpa using hc)))))];rfl
       ·rw [bN (.inr (.inr (.inr (.inl hb)))),show decide (((Cr m a).length:Int)>0)=true from bG (by have:=List.length_pos_iff.2 hb;omega)];rfl
  ·rw [bN q,show (Wv m !=0)=true by simpa using q];rfl
/-- Where the lanes of a route begin. -/
noncomputable def N6 (m:Map):Int→List Int→List Int
  |_,[]=> []
  |s,a::r=>s::N6 m (s+Q5 m a) r
noncomputable def Es (m:Map):Int→List Int→Int
  |s,[]=>s
  |s,a::r=>Es m (s+Q5 m a) r
theorem Ld (m:Map): ∀(r:List Int) (s:Int),(N6 m s r).length=r.length
  | [],_=>rfl
  |_::r,_=>by rw [N6,lL,Ld m r,lL]
noncomputable def Y1 (m:Map)(r:List Int):RoadsWay:=if P2 m r=0 then ⟨m,r,N6 m 0 r,Es m 0 r⟩else ⟨⟨0,[],[],[],[]⟩,[],[],0⟩
theorem Qm {m:Map}(B:BearM m)(r:List Int)(hr:r.length≤1000000):Z2 m r=some (Y1 m r):=by
  unfold Z2 Y1
  rw [DL B r hr,lB]
  by_cases q:P2 m r=0
  ·rw [bN q,q]
   obtain ⟨a,t,rfl,R⟩:=chkRoute_zero.1 q
   have key: ∀(l:List Int) (i:Nat) (s:Int) (st:List Int),(a::t).drop i=l→i≤(a::t).length→0≤s→s≤16777216*i→st.length=i→loop (X0 m (a::t)) ((i:Int),(st,s))=some (st++N6 m s l,Es m s l):=by
     intro l
     induction l with
     |nil=>
      intro i s st hi hil _ _ _
      have:=N0 hi
      obtain rfl:i=(a::t).length:=by omega
      refine D2 ?_
      unfold X0
      rw [J2,N6,Es,lP];rfl
     |cons x l ih=>
      intro i s st hi hil h0 h1 h2
      have hlt:=L3 hi
      have hx:=S6 hi
      have hm:=R.mem (lG hx)
      have hl:=R.val.long hm.1 hm.2
      have hm7:=R.most
      simp only [lL]at hlt
      rw [H8 (s':=(((i+1:Nat):Int),(st++ [s],s+Q5 m x)))]
      ·rw [ih (i+1) _ _ (I4 hi) (by simp;omega) (by omega) (by omega) (by simp [h2]),N6,Es,lO];rfl
      ·unfold X0
       dsimp only
       rw [K7 (by simpa using hlt),C9 hx,bK,lB,Di (by simp;omega),lB,KN B.toBear hm.1 hm.2,lB,H5 hlt (by omega),SY (by omega)]
   have:=key (a::t) 0 0 [] rfl (by omega) (by decide) (by decide) rfl
   rw [show ((0:Nat):Int)=0 from rfl]at this
   show (loop (X0 m (a::t)) (0,([],0))).bind _=_
   rw [this];rfl
  ·rw [bO q,show (P2 m r !=0)=true by simpa using q];rfl
/-- The place in a route at which it enters a zone. -/
noncomputable def Fe (m:Map)(r:List Int)(k:Int):Int:=match m.Zones[k.toNat]? with
  |some z=>if 0≤k∧P2 m r=0 then HZ (fun l=>(Oe z l).2) r else -1
  |none=> -1
theorem jR {m:Map}(B:BearM m)(r:List Int)(hr:r.length≤1000000)(k:Int):Ia m r k=some (Fe m r k):=by
  unfold Ia Fe
  rw [Qm B r hr,lB]
  by_cases h:k<0∨(m.Zones.length:Int)≤k
  ·rw [show ((decide (k<0))||(decide (k≥(m.Zones.length:Int))))=true by simpa using h,bK]
   cases hz:m.Zones[k.toNat]? with
   |none=>rfl
   |some z=>
    have:=J1 hz
    dsimp only
    rw [bO (fun x=>by have:=x.1;omega)]
  ·obtain ⟨z,z1,z2⟩:=aE (m:=m) (k:=k) (by omega) (by omega)
   rw [show ((decide (k<0))||(decide (k≥(m.Zones.length:Int))))=false by rw [bX];simpa using h,bM,z1]
   dsimp only
   have hp:=B.toBearZ.parts z (lG z1)
   have key: ∀l:List Int,l.length≤1000000→I5 l m k=some (HZ (fun l=>(Oe z l).2) l):=by
     intro l hl
     unfold I5
     rw [Uo l (fun l=>(Oe z l).2) (by omega) (fun i a h=>by
      have hi:=J1 h
      unfold H4 Al
      rw [K7 hi,C9 h,bK,lB,z2,lB,nU hp,lB,lB]
      cases (Oe z a).2<;>rfl) (by unfold H4;rw [J2];rfl)]
   unfold Y1
   by_cases q:P2 m r=0
   ·rw [bN q,bN ⟨by omega,q⟩,key r hr];rfl
   ·rw [bO q,bO (fun x=>q x.2),key [] (by simp)];rfl
/-- A walk that goes on until it can't. -/
def JE (m:Map):Nat→Int→List Int→Bool
  |c,a,[]=>(nextOf m a.toNat).isEmpty||c==0
  |c,a,b::r=>(nextOf m a.toNat).contains b&&decide (0<c)&&JE m (c - 1) b r
theorem NO {m:Map}: ∀{r:List Int} {c:Nat} {a:Int},JE m c a r=true→Kd m a r=true∧r.length≤c
  | [],c,a,_=>⟨rfl,wG _⟩
  |b::r,c,a,h=>by
   rw [JE,bS,bS,bI]at h
   have:=NO h.2
   rw [Kd,h.1.1,this.1]
   refine ⟨rfl,?_⟩
   simp only [lL];omega
theorem VN {m:Map}(V:ValR m): ∀(f:Nat) (x a:Int) (c:Nat) (out:List Int),0≤x→x<16777216→0≤a→a<m.Lanes.length→m.Lanes.length≤a.toNat+f→out.length+c=8→
    ∃r,loop (Lz m) (x,a,out)=some (out++r)∧JE m c a r=true
  |0,x,a,c,out,h0,h1,a0,a1,hf,hc=>by omega
  |f+1,x,a,c,out,h0,h1,a0,a1,hf,hc=>by
   obtain ⟨ln,e1,e2⟩:=Vn a0 a1
   have hn:nextOf m a.toNat=ln.Next:=by unfold nextOf;rw [e1];rfl
   have hfew:=(V.laneOK e1).few
   by_cases q:ln.Next.length=0∨c=0
   ·refine ⟨[],?_,?_⟩
    ·rw [lP]
     refine D2 ?_
     unfold Lz
     dsimp only
     rw [e2,lB]
     rw [show ((decide ((ln.Next.length:Int)>0))&& (decide ((out.length:Int)<8)))=false by simp;omega];rfl
    ·rw [JE,hn]
     rcases q with q|q
     ·rw [l9 q];rfl
     ·rw [q,beq_self_eq_true,Bool.or_true]
   ·have hm:=Gv x (show (0:Int)< (ln.Next.length:Int) by omega)
    have hlt:(x % (ln.Next.length:Int)).toNat<ln.Next.length:=by omega
    have hbm:=V.next e1 (List.getElem_mem hlt)
    have hx:0≤x / (ln.Next.length:Int)∧x / (ln.Next.length:Int)<16777216:=⟨Int.ediv_nonneg h0 (by omega),Int.lt_of_le_of_lt (Int.ediv_le_self _ h0) h1⟩
    obtain ⟨r,r1,r2⟩:=VN V f (x / (ln.Next.length:Int)) ln.Next[(x % (ln.Next.length:Int)).toNat] (c - 1) (out++ [ln.Next[(x % (ln.Next.length:Int)).toNat]]) hx.1 hx.2 (by omega) (by omega) (by omega) (by simp;omega)
    refine ⟨ln.Next[(x % (ln.Next.length:Int)).toNat]::r,?_,?_⟩
    ·rw [lO]at r1
     rw [H8 (s':=(x / (ln.Next.length:Int),ln.Next[(x % (ln.Next.length:Int)).toNat],out++ [ln.Next[(x % (ln.Next.length:Int)).toNat]]))]
     ·exact r1
     ·unfold Lz
      dsimp only
      rw [e2,lB]
      rw [show ((decide ((ln.Next.length:Int)>0))&& (decide ((out.length:Int)<8)))=true by simp;omega,bK,lB,lB]
      unfold Re JO
      rw [bO (by omega),lB,wO h0,wN h0]
      have e3:C3 ln.Next (x % (ln.Next.length:Int))=some ln.Next[(x % (ln.Next.length:Int)).toNat]:=by
        unfold C3
        rw [bN hm.1,lH hlt]
      rw [e3,lB,bO (by omega),lB,Di (by simp;omega),lB]
      have:IntKind.wrap .i64 (x / (ln.Next.length:Int))=x / (ln.Next.length:Int):=SY (by omega)
      rw [this]
    ·rw [JE,hn,r2,bQ,bS]
     exact ⟨List.contains_iff_mem.2 (List.getElem_mem hlt),by simp;omega⟩
/-- A route of the kit: it begins at a source, and goes on until it can't. -/
theorem SP {m:Map}(B:BearM m)(V:ValR m)(n:Int): ∃a t,Ka m n=some (a::t)∧a∈T7 m∧JE m 7 a t=true:=by
  unfold Ka
  obtain ⟨s,s1,_⟩:=QG V 1 0 (by decide) (by have:=V.pos;omega) (by decide)
  have h12:=V.lanes
  have ol:(T7 m).length≤12:=wJ (Wu _ _ _) h12
  have op:0< (T7 m).length:=List.length_pos_iff.2 (fun e=>by rw [e]at s1;cases s1)
  rw [VL B,lB,show (((T7 m).length:Int)==0)=false by simp only [beq_eq_false_iff_ne];omega,bM,Us (by decide) (by decide),lB]
  have c:=Gv n (show (0:Int)<1048576 by decide)
  generalize n % 1048576=x at c
  unfold Re JO
  rw [bO (by omega),lB,wO c.1,wN c.1]
  have hm:=Gv x (show (0:Int)< ((T7 m).length:Int) by omega)
  have hlt:(x % ((T7 m).length:Int)).toNat< (T7 m).length:=by omega
  have e3:C3 (T7 m) (x % ((T7 m).length:Int))=some (T7 m)[(x % ((T7 m).length:Int)).toNat]:=by
    unfold C3
    rw [bN hm.1,lH hlt]
  have hx:0≤x / ((T7 m).length:Int)∧x / ((T7 m).length:Int)<16777216:=⟨Int.ediv_nonneg c.1 (by omega),by have:=Int.ediv_le_self ((T7 m).length:Int) c.1;omega⟩
  rw [e3,lB,bO (by omega),lB]
  have:IntKind.wrap .i64 (x / ((T7 m).length:Int))=x / ((T7 m).length:Int):=SY (by omega)
  rw [this]
  have hmem:=List.getElem_mem hlt
  have ho:=mem_origins.1 hmem
  obtain ⟨r,r1,r2⟩:=VN V m.Lanes.length (x / ((T7 m).length:Int)) (T7 m)[(x % ((T7 m).length:Int)).toNat] 7 [(T7 m)[(x % ((T7 m).length:Int)).toNat]] hx.1 hx.2 ho.1 ho.2.1 (by omega) rfl
  exact ⟨_,r,by rw [r1];rfl,hmem,r2⟩
theorem jS {m:Map}(V:ValR m){a:Int}{t:List Int}(ha:a∈T7 m)(h:JE m 7 a t=true):RouteOK m a t:=by
  have ho:=mem_origins.1 ha
  have hf:=NO h
  exact ⟨V,hf.2,⟨ho.1,ho.2.1⟩,ho.2.2,hf.1⟩
end Go.Abs.World
/-! Lists that are sorted, and how an insertion sort makes them. -/
namespace Go.Abs
open Go
/-- What a comparison must satisfy. -/
structure LtOK {α:Type}(lt:α→α→Bool):Prop where
  asym: ∀a b,lt a b=true→lt b a=false
  trans: ∀a b c,lt b a=false→lt c b=false→lt c a=false
def Srt {α:Type}(lt:α→α→Bool)(l:List α):Prop:=l.Pairwise fun a b=>lt b a=false
section
variable {α:Type}
theorem BN (U V:List α)(x y:α)(n:Int)(h:n=(U.length:Int)):Oh (U++x::V) n y=U++y::V:=by
  subst h
  simp [Oh]
theorem Wx (U V:List α)(x:α)(n:Int)(h:n=(U.length:Int)):C3 (U++x::V) n=some x:=by
  subst h
  simp [C3]
theorem YP {Q:List α}(h:Q≠ []): ∃Q' q,Q=Q'++ [q]:=⟨Q.dropLast,Q.getLast h,(List.dropLast_concat_getLast h).symm⟩
variable {lt:α→α→Bool}
theorem Srt.ins (L:LtOK lt){Q1 Q2:List α}{x:α}(h:Srt lt (Q1++Q2))(h1: ∀q∈Q1,lt x q=false)(h2: ∀q∈Q2,lt x q=true):Srt lt (Q1++x::Q2):=by
  unfold Srt at h ⊢
  rw [List.pairwise_append]at h ⊢
  refine ⟨h.1,bC.2 ⟨fun b hb=>L.asym _ _ (h2 b hb),h.2.1⟩,fun a ha b hb=> ?_⟩
  rcases lU.1 hb with rfl|hb
  ·exact h1 a ha
  ·exact h.2.2 a ha b hb
theorem LtOK.irr (L:LtOK lt)(a:α):lt a a=false:=by
  cases h:lt a a with
  |false=>rfl
  |true=>rw [L.asym a a h]at h;cases h
theorem Srt.get (L:LtOK lt){l:List α}(h:Srt lt l){i j:Nat}(hij:i≤j)(hj:j<l.length):lt l[j] l[i]=false:=by
  rcases Nat.lt_or_eq_of_le hij with h1|h1
  ·exact List.pairwise_iff_getElem.1 h i j (by omega) hj h1
  ·subst h1;exact L.irr _
theorem Srt.left {l m:List α}(h:Srt lt (l++m)):Srt lt l:=(List.pairwise_append.1 h).1
/-- The inner loop: an element goes down to its place. -/
theorem QI (L:LtOK lt){F:Int×List α→Option (Stp (Int×List α) (List α))}{P T:List α}(N:Nat)
    (hstop: ∀xs,F ((P.length:Int),xs)=some (.out xs))
    (hF: ∀(U V:List α) (q x:α),P.length≤U.length→(U++q::x::V).length=N→F (((U.length:Int)+1),U++q::x::V)=some (if lt x q then .go ((U.length:Int),U++x::q::V)else .out (U++q::x::V))) (x:α):
    ∀(n:Nat) (Q1 Q2:List α),Q1.length=n→Srt lt (Q1++Q2)→(∀q∈Q2,lt x q=true)→(P++Q1++x::Q2++T).length=N→
     ∃Q,loop F (((P.length+Q1.length:Nat):Int),P++Q1++x::Q2++T)=some (P++Q++T)∧Q.Perm (x::(Q1++Q2))∧Srt lt Q:=by
  intro n
  induction n with
  |zero=>
   intro Q1 Q2 hn hs hg hN
   obtain rfl:=List.length_eq_zero_iff.1 hn
   refine ⟨x::Q2,?_,by simp,?_⟩
   ·rw [D2 (by rw [lN,Nat.add_zero];exact hstop _)]
    simp
   ·exact hs.ins L (by simp) hg
  |succ n ih=>
   intro Q1 Q2 hn hs hg hN
   obtain ⟨Q',q,rfl⟩:=YP (Q:=Q1) (by rintro rfl;simp at hn)
   rw [lM,List.length_singleton]at hn
   have e1:P++ (Q'++ [q])++x::Q2++T=(P++Q')++q::x::(Q2++T):=by simp
   have e2:((P.length+ (Q'++ [q]).length:Nat):Int)=((P++Q').length:Int)+1:=by simp;omega
   have hF1:=hF (P++Q') (Q2++T) q x (by simp) (by rw [← e1];exact hN)
   by_cases hl:lt x q=true
   ·rw [bN hl]at hF1
    obtain ⟨Q,g1,g2,g3⟩:=ih Q' (q::Q2) (by omega) (by simpa using hs) (fun y hy=>by
      rcases lU.1 hy with rfl|hy
      ·exact hl
      ·exact hg y hy) (by rw [← hN];simp)
    refine ⟨Q,?_,g2.trans (by simp),g3⟩
    rw [e1,e2,H8 hF1,← g1]
    congr 1
    simp
   ·rw [bO hl]at hF1
    have hl':lt x q=false:=by simpa using hl
    refine ⟨Q'++ [q]++x::Q2,?_,?_,hs.ins L (fun y hy=> ?_) hg⟩
    ·rw [e1,e2,D2 hF1];simp
    ·have:=List.perm_middle (a:=x) (l₁:=Q'++ [q]) (l₂:=Q2);exact this
    ·rcases lT.1 hy with h|h
     ·have hq:lt q y=false:=by
        unfold Srt at hs
        rw [lO,List.pairwise_append]at hs
        exact hs.2.2 y h q (by simp)
      exact L.trans y q x hq hl'
     ·rw [bF.1 h];exact hl'
/-- The outer loop. -/
theorem dL {F:Int×List α→Option (Stp (Int×List α) (List α))}{P S:List α}(N:Nat)(b:Nat)
    (hend: ∀xs (i:Nat),b≤i→F ((i:Int),xs)=some (.out xs))
    (hF: ∀(Q R:List α) (x:α),(P++Q++x::R++S).length=N→P.length+Q.length<b→Srt lt Q→∃Q',F (((P.length+Q.length:Nat):Int),P++Q++x::R++S)=some (.go (((P.length+Q.length+1:Nat):Int),P++Q'++R++S))∧Q'.Perm (x::Q)∧Srt lt Q'):
    ∀(R Q:List α),(P++Q++R++S).length=N→P.length+Q.length+R.length=b→Srt lt Q→∃Q',loop F (((P.length+Q.length:Nat):Int),P++Q++R++S)=some (P++Q'++S)∧Q'.Perm (Q++R)∧Srt lt Q':=by
  intro R
  induction R with
  |nil=>
   intro Q hN hb hs
   refine ⟨Q,?_,by simp,hs⟩
   rw [D2 (hend _ _ (by simpa using Nat.le_of_eq hb.symm))]
   simp
  |cons x R ih=>
   intro Q hN hb hs
   rw [lL]at hb
   obtain ⟨Q',g1,g2,g3⟩:=hF Q R x hN (by omega) hs
   have hl:Q'.length=Q.length+1:=by rw [g2.length_eq];simp
   obtain ⟨Q2,k1,k2,k3⟩:=ih Q' (by rw [← hN];simp [hl];omega) (by omega) g3
   refine ⟨Q2,?_,k2.trans ((g2.append_right R).trans ?_),k3⟩
   ·rw [H8 g1,← k1,hl]
    congr 1
   ·exact (List.perm_middle (a:=x) (l₁:=Q) (l₂:=R)).symm
end
end Go.Abs
/-! How the lists are sorted. -/
namespace Go.Abs.World
open Go Go.Abs
theorem nY {α:Type}(U V:List α)(q x:α):U++q::x::V=(U++ [q])++x::V:=by simp
structure SigOK (s:Signal):Prop where
  pos:0<s.Phases.length
  many:s.Phases.length≤6
  off:0≤s.Offset∧s.Offset≤1099511627776
  ticks: ∀p∈s.Phases,1≤p.Ticks∧p.Ticks≤10000
  green: ∀p∈s.Phases,p.Green.length≤1000000
theorem ValR.sig {m:Map}(B:BearM m)(V:ValR m){i:Nat}{s:Signal}(h:m.Signals[i]? =some s):SigOK s:=by
  have:=firstE_none.1 V.signalE i s h
  unfold World.signalE at this
  split at this
  ·cases this
  split at this
  ·cases this
  split at this
  ·cases this
  split at this
  ·cases this
  rename_i h1 h2 h3 h4
  refine ⟨by omega,by omega,?_,fun p hp=> ?_,(B.toBearS.phases s (lG h)).2⟩
  ·have:Wf s.Offset 0 1099511627776=true:=by simpa using h3
   simpa [Wf] using this
  ·have:Wf p.Ticks 1 10000=true:=by
     cases q:Wf p.Ticks 1 10000 with
     |true=>rfl
     |false=>exact absurd (l7.2 ⟨p,hp,by rw [q];rfl⟩) h4
   simpa [Wf] using this
def Po:List Phase→Int
  | []=>0
  |p::r=>p.Ticks+Po r
def JF (lane:Int):Int→List Phase→Bool
  |_,[]=>false
  |at_,p::r=>if p.Ticks≤at_ then JF lane (at_ - p.Ticks) r else p.Green.contains lane
def YQ (s:Signal)(lane tick:Int):Bool:=JF lane ((s.Offset+tick) % Po s.Phases) s.Phases
theorem aG: ∀{l:List Phase},(∀p∈l,1≤p.Ticks∧p.Ticks≤10000)→(l.length:Int)≤Po l∧Po l≤10000*l.length
  | [],_=>by simp [Po]
  |p::r,h=>by
   have:=aG (l:=r) fun q hq=>h q (List.mem_cons_of_mem _ hq)
   have:=h p (by simp)
   simp only [Po,lL]
   omega
theorem SigOK.sum {s:Signal}(S:SigOK s):1≤Po s.Phases∧Po s.Phases≤60000:=by
  have:=aG S.ticks
  have:=S.pos
  have:=S.many
  omega
theorem tE (s:Signal)(S:SigOK s): ∀(r:List Phase) (i:Nat) (a:Int),s.Phases.drop i=r→i≤s.Phases.length→0≤a→a+10000*r.length≤1000000→loop (Cf s) (a,(i:Int))=some (a+Po r):=by
  intro r
  induction r with
  |nil=>
   intro i a hi hil h0 h1
   have:=N0 hi
   obtain rfl:i=s.Phases.length:=by omega
   refine D2 ?_
   unfold Cf
   rw [J2];simp [Po]
  |cons p r ih=>
   intro i a hi hil h0 h1
   have hlt:=L3 hi
   have hp:=S6 hi
   have hb:=S.ticks p (lG hp)
   simp only [lL]at h1
   have hs:Cf s (a,(i:Int))=some (.go (a+p.Ticks,((i+1:Nat):Int))):=by
     unfold Cf
     dsimp only
     rw [K7 hlt,C9 hp,bK,lB,E6 (by omega),H5 hlt (by have:=S.many;omega)]
   rw [H8 hs,ih (i+1) _ (I4 hi) (by omega) (by omega) (by omega),Po]
   congr 1;omega
theorem tF (s:Signal)(S:SigOK s)(lane:Int): ∀(r:List Phase) (i:Nat) (a:Int),s.Phases.drop i=r→i≤s.Phases.length→0≤a→a≤1000000→thenS (loop (U8 s lane) (a,(i:Int))) (fun _=>some false) (fun r=>some r)=some (JF lane a r):=by
  intro r
  induction r with
  |nil=>
   intro i a hi hil h0 h1
   have:=N0 hi
   obtain rfl:i=s.Phases.length:=by omega
   rw [D2 (t:= .inl ())]
   ·rfl
   ·unfold U8
    rw [J2];rfl
  |cons p r ih=>
   intro i a hi hil h0 h1
   have hlt:=L3 hi
   have hp:=S6 hi
   have hb:=S.ticks p (lG hp)
   by_cases hc:p.Ticks≤a
   ·have hs:U8 s lane (a,(i:Int))=some (.go (a - p.Ticks,((i+1:Nat):Int))):=by
      unfold U8
      dsimp only
      rw [K7 hlt,C9 hp,bK,lB,show decide (a≥p.Ticks)=true from bG hc,bK,E6 (by omega),H5 hlt (by have:=S.many;omega)]
    rw [H8 hs,ih (i+1) _ (I4 hi) (by omega) (by omega) (by omega),JF,bN hc]
   ·have hs:U8 s lane (a,(i:Int))=some (.out (.inr (p.Green.contains lane))):=by
      unfold U8
      dsimp only
      rw [K7 hlt,C9 hp,bK,lB,show decide (a≥p.Ticks)=false from bH (by omega),bM,BM _ (S.green p (lG hp)),lB]
    rw [D2 hs,JF,bO hc];rfl
theorem pM {s:Signal}(S:SigOK s){tick:Int}(h:0≤tick):(D4 (s.Offset.tmod (Po s.Phases)+tick.tmod (Po s.Phases))).tmod (Po s.Phases)=(s.Offset+tick) % Po s.Phases:=by
  obtain ⟨h1,h2⟩:=S.sum
  have ho:=S.off.1
  rw [wO ho,wO h]
  have a1:=wP s.Offset (b:=Po s.Phases) (by omega)
  have a2:=wP tick (b:=Po s.Phases) (by omega)
  have a3:=wQ s.Offset (b:=Po s.Phases) (by omega)
  have a4:=wQ tick (b:=Po s.Phases) (by omega)
  rw [E6 (by omega),wO (by omega),← Int.add_emod]
theorem dM {s:Signal}(S:SigOK s)(lane:Int){tick:Int}(h:0≤tick):Fs s lane tick=some (YQ s lane tick):=by
  obtain ⟨h1,h2⟩:=S.sum
  unfold Fs
  have e1:loop (Cf s) (0,0)=some (Po s.Phases):=by
    have:=tE s S s.Phases 0 0 rfl (by omega) (by omega) (by have:=S.many;omega)
    rw [Int.zero_add]at this;exact this
  have hne:Po s.Phases≠0:=by omega
  rw [e1,lB]
  unfold Re
  rw [bO hne,lB,bO hne,lB,bO hne,lB,pM S h]
  refine tF s S lane s.Phases 0 _ rfl (by omega) (wP _ hne) ?_
  have:=wQ (s.Offset+tick) (b:=Po s.Phases) (by omega)
  omega
noncomputable def IC (m:Map)(g lane tick:Int):Bool:=(((decide (tick≥0))&& (decide (g≥0)))&& (decide (g< (m.Signals.length:Int))))&&YI m lane&&YQ (m.Signals.getD g.toNat default) lane tick
theorem jT {m:Map}(B:BearM m)(g lane tick:Int):Ib m g lane tick=some (IC m g lane tick):=by
  unfold Ib IC
  rw [JB B]
  cases hc:(((decide (tick≥0))&& (decide (g≥0)))&& (decide (g< (m.Signals.length:Int))))
  ·rfl
  ·cases hi:YI m lane
   ·rfl
   ·simp only [bS,bI]at hc
    obtain ⟨⟨c1,c2⟩,c3⟩:=hc
    have hl:g.toNat<m.Signals.length:=by omega
    have hget:m.Signals[g.toNat]? =some (m.Signals.getD g.toNat default):=by rw [List.getD,lH hl];rfl
    have hg:C3 m.Signals g=some (m.Signals.getD g.toNat default):=by unfold C3;rw [bN c2,hget]
    have S:=((isM_true.1 hi).2.2).sig B hget
    simp only [bK,lB,bP,hg,dM S lane c1]
theorem Ut {high:Int}: ∀{l:List Int} {low:Int},Cq high low l=true→l.Pairwise (· < ·)
  | [],_,_=>List.Pairwise.nil
  |n::r,low,h=>by
   simp only [Cq,bS]at h
   refine bC.2 ⟨fun x hx=> ?_,Ut h.2⟩
   have:=(Mc h.2 x hx).1
   omega
end Go.Abs.World
namespace Go.Abs
open Go
section
variable {α β σ τ:Type}
/-- What rounds put one behind the other. -/
def Pi (g:Nat→α→List β):Nat→List α→List β
  |_,[]=> []
  |i,a::r=>g i a++Pi g (i+1) r
theorem ID (g:Nat→α→List β)(C:Nat): ∀(l:List α) (i:Nat),(∀(j:Nat) a,l[j]? =some a→(g (i+j) a).length≤C)→(Pi g i l).length≤l.length*C
  | [],_,_=>by simp [Pi]
  |a::r,i,h=>by
   have h1:=h 0 a rfl
   have h2:=ID g C r (i+1) (fun j b hb=>by have:=h (j+1) b (by simpa using hb);rwa [show i+1+j=i+ (j+1) by omega])
   rw [Pi,lM,lL,Nat.succ_mul]
   rw [Nat.add_zero]at h1
   omega
theorem sE {F:List β×Int→Option (Stp (List β×Int) τ)}(l:List α)(g:Nat→α→List β)(fin:List β→τ)(s0:List β)(C B:Nat)(hB:s0.length+l.length*C≤B)(hC: ∀(i:Nat) a,l[i]? =some a→(g i a).length≤C)
    (hF: ∀(i:Nat) a (s:List β),l[i]? =some a→s.length+C≤B→F (s,(i:Int))=some (.go (s++g i a,((i+1:Nat):Int))))
    (h0: ∀s,F (s,(l.length:Int))=some (.out (fin s))):loop F (s0,0)=some (fin (s0++Pi g 0 l)):=by
  have key: ∀(r:List α) (i:Nat) (s:List β),Yv (fun i s a=>s++g i a) i s r=s++Pi g i r:=by
    intro r
    induction r with
    |nil=>intro i s;simp [Yv,Pi]
    |cons a r ih=>intro i s;rw [Yv,ih,Pi,lO]
  have:=aD (F:=F) (fun i s=>(s,(i:Int))) l (fun i s=>i≤l.length→s.length≤s0.length+i*C) (fun i s a=>s++g i a) fin (s0:=s0) (S0:=(s0,0)) rfl (by simp) (fun i a s h hs=>by
    have hi:=(lI.1 h).1
    have:=hs (by omega)
    have e:i*C+C≤l.length*C:=by rw [← Nat.succ_mul];exact Nat.mul_le_mul_right _ hi
    exact hF i a s h (by omega)) (fun i a s h hs=>by
    intro hi
    have:=hs (by omega)
    have:=hC i a h
    rw [lM,Nat.succ_mul];omega) (fun s _=>h0 s)
  rw [this,key]
end
end Go.Abs
namespace Go.Abs.World
open Go Go.Abs
theorem jU {z:Zone}(hl:z.Parts.length≤1000000)(k:Int):Xt z k=some (Oe z k):=by
  have key: ∀(r:List Part) (i:Nat),z.Parts.drop i=r→i≤z.Parts.length→thenS (loop (Gk z k) (i:Int)) (fun _=>some ((⟨0,0,0,0⟩:Part),false)) (fun r=>some r)=some (match r.find? (fun p=>p.Lane_==k)with|some p=>(p,true)|none=>(⟨0,0,0,0⟩,false)):=by
    intro r
    induction r with
    |nil=>
     intro i hi hil
     have:=N0 hi
     obtain rfl:i=z.Parts.length:=by omega
     rw [D2 (t:= .inl ()) (by unfold Gk;rw [J2];rfl)];rfl
    |cons p r ih=>
     intro i hi hil
     have hlt:=L3 hi
     have hp:=S6 hi
     rw [List.find?_cons]
     cases q:p.Lane_==k
     ·rw [H8 (s':=((i+1:Nat):Int)) (by unfold Gk;rw [K7 hlt,C9 hp,bK,lB,q,H5 hlt (by omega)];rfl)]
      exact ih (i+1) (I4 hi) (by omega)
     ·rw [D2 (t:= .inr (p,true)) (by unfold Gk;rw [K7 hlt,C9 hp,bK,lB,q,bK,lB])];rfl
  exact key z.Parts 0 rfl (by omega)
theorem sF (s:Signal)(S:SigOK s): ∀(r:List Phase) (i:Nat) (a:Int),s.Phases.drop i=r→i≤s.Phases.length→0≤a→a+10000*r.length≤1000000→loop (Cj s) (a,(i:Int))=some (a+Po r):=by
  intro r
  induction r with
  |nil=>
   intro i a hi hil h0 h1
   have:=N0 hi
   obtain rfl:i=s.Phases.length:=by omega
   refine D2 ?_
   unfold Cj
   rw [J2];simp [Po]
  |cons p r ih=>
   intro i a hi hil h0 h1
   have hlt:=L3 hi
   have hp:=S6 hi
   have hb:=S.ticks p (lG hp)
   simp only [lL]at h1
   have hs:Cj s (a,(i:Int))=some (.go (a+p.Ticks,((i+1:Nat):Int))):=by
     unfold Cj
     dsimp only
     rw [K7 hlt,C9 hp,bK,lB,E6 (by omega),H5 hlt (by have:=S.many;omega)]
   rw [H8 hs,ih (i+1) _ (I4 hi) (by omega) (by omega) (by omega),Po]
   congr 1;omega
theorem sG (s:Signal)(S:SigOK s)(lane:Int): ∀(r:List Phase) (i:Nat) (a:Int),s.Phases.drop i=r→i≤s.Phases.length→0≤a→a≤1000000→thenS (loop (An s lane) (a,(i:Int))) (fun _=>some false) (fun r=>some r)=some (JF lane a r):=by
  intro r
  induction r with
  |nil=>
   intro i a hi hil h0 h1
   have:=N0 hi
   obtain rfl:i=s.Phases.length:=by omega
   rw [D2 (t:= .inl ())]
   ·rfl
   ·unfold An
    rw [J2];rfl
  |cons p r ih=>
   intro i a hi hil h0 h1
   have hlt:=L3 hi
   have hp:=S6 hi
   have hb:=S.ticks p (lG hp)
   by_cases hc:p.Ticks≤a
   ·have hs:An s lane (a,(i:Int))=some (.go (a - p.Ticks,((i+1:Nat):Int))):=by
      unfold An
      dsimp only
      rw [K7 hlt,C9 hp,bK,lB,show decide (a<p.Ticks)=false from bH (by omega),bM,lB,E6 (by omega),H5 hlt (by have:=S.many;omega)]
    rw [H8 hs,ih (i+1) _ (I4 hi) (by omega) (by omega) (by omega),JF,bN hc]
   ·have hs:An s lane (a,(i:Int))=some (.out (.inr (p.Green.contains lane))):=by
      unfold An
      dsimp only
      rw [K7 hlt,C9 hp,bK,lB,show decide (a<p.Ticks)=true from bG (by omega),bK,lB,YJ _ (S.green p (lG hp)),lB]
    rw [D2 hs,JF,bO hc];rfl
theorem dN {s:Signal}(S:SigOK s)(lane:Int){tick:Int}(h:0≤tick):Ro s lane tick=some (YQ s lane tick):=by
  obtain ⟨h1,h2⟩:=S.sum
  unfold Ro
  have e1:loop (Cj s) (0,0)=some (Po s.Phases):=by
    have:=sF s S s.Phases 0 0 rfl (by omega) (by omega) (by have:=S.many;omega)
    rw [Int.zero_add]at this;exact this
  have hne:Po s.Phases≠0:=by omega
  rw [e1,lB]
  unfold Re
  rw [bO hne,lB,bO hne,lB,bO hne,lB,pM S h]
  refine sG s S lane s.Phases 0 _ rfl (by omega) (wP _ hne) ?_
  have:=wQ (s.Offset+tick) (b:=Po s.Phases) (by omega)
  omega
theorem dO {m:Map}(B:BearM m)(g lane tick:Int):Rp m g lane tick=some (IC m g lane tick):=by
  unfold Rp IC
  rw [DK B,lB]
  have e:(((YI m lane&& (decide (g≥0)))&& (decide (g< (m.Signals.length:Int))))&& (decide (tick≥0)))=((((decide (tick≥0))&& (decide (g≥0)))&& (decide (g< (m.Signals.length:Int))))&&YI m lane):=by
    cases YI m lane<;>cases decide (g≥0)<;>cases decide (g< (m.Signals.length:Int))<;>cases decide (tick≥0)<;>rfl
  rw [e]
  cases hc:((((decide (tick≥0))&& (decide (g≥0)))&& (decide (g< (m.Signals.length:Int))))&&YI m lane)
  ·rfl
  ·simp only [bS,bI]at hc
   obtain ⟨⟨⟨c1,c2⟩,c3⟩,c4⟩:=hc
   have hl:g.toNat<m.Signals.length:=by omega
   have hget:m.Signals[g.toNat]? =some (m.Signals.getD g.toNat default):=by rw [List.getD,lH hl];rfl
   have hg:C3 m.Signals g=some (m.Signals.getD g.toNat default):=by unfold C3;rw [bN c2,hget]
   have S:=((isM_true.1 c4).2.2).sig B hget
   simp only [bK,lB,bP,hg,dN S lane c1]
def KD (x y:Int):Int:=if x<y then -1 else if x>y then 1 else 0
def nZ (a b:Pass):Int:=if KD a.From b.From≠0 then KD a.From b.From else KD a.Zone_ b.Zone_
def Yy (a b:Pass):Bool:=decide (a.From<b.From∨a.From=b.From∧a.Zone_<b.Zone_)
theorem ltP_ok:LtOK Yy:=⟨fun a b h=>by simp only [Yy,bI,wA]at h ⊢;omega,fun a b c h1 h2=>by simp only [Yy,wA]at h1 h2 ⊢;omega⟩
theorem oA (a b:Pass):decide (nZ a b<0)=Yy a b:=by
  unfold nZ Yy KD
  rw [decide_eq_decide]
  split<;>(repeat' split)<;>omega
theorem sH (x y:Int):Db [x,y]=some (if x≠0 then x else y):=by
  have f0:Af [x,y] 0=some (if x≠0 then .out (.inr x)else .go 1):=by
    by_cases h:x=0
    ·subst h;rfl
    ·have hb:(x !=0)=true:=by simp [h]
     unfold Af
     simp [C3,h,hb]
  have f1:Af [x,y] 1=some (if y≠0 then .out (.inr y)else .go 2):=by
    by_cases h:y=0
    ·subst h;rfl
    ·have hb:(y !=0)=true:=by simp [h]
     unfold Af
     simp [C3,h,hb]
  have f2:Af [x,y] 2=some (.out (.inl ())):=rfl
  unfold Db
  by_cases hx:x=0
  ·by_cases hy:y=0
   ·rw [H8 (by rw [f0,bO (by simp [hx])]),H8 (by rw [f1,bO (by simp [hy])]),D2 f2]
    subst hx hy;rfl
   ·rw [H8 (by rw [f0,bO (by simp [hx])]),D2 (by rw [f1,bN hy]),bO (by simp [hx])];rfl
  ·rw [D2 (by rw [f0,bN hx]),bN hx];rfl
theorem SQ (a b:Int):Cn a b=some (KD a b):=by
  have h: ∀x:Int,Ax x=some false:=fun x=>by unfold Ax;simp
  unfold Cn KD
  rw [h,h]
  simp only [lB,bM,KI]
  split<;>(repeat' split)<;>rfl
theorem EM (a b:Int):Aw a b=some (KD a b):=by
  have h: ∀x:Int,Js x=some false:=fun x=>by unfold Js;simp
  unfold Aw KD
  rw [h,h]
  simp only [lB,bM,KI]
  split<;>(repeat' split)<;>rfl
theorem oC (a b:Pass):Ce a b=some (nZ a b):=by
  unfold Ce nZ
  rw [SQ,lB,EM,lB,sH];rfl
theorem YR (P T:List Pass)(x:Pass)(Q:List Pass)(hs:Srt Yy Q)(hN:(P++Q++x::T).length≤1000000):
    ∃Q',loop (D3 (P.length:Int)) (((P.length+Q.length:Nat):Int),P++Q++x::T)=some (P++Q'++T)∧Q'.Perm (x::Q)∧Srt Yy Q':=by
  have hstop: ∀xs,D3 (P.length:Int) ((P.length:Int),xs)=some (.out xs):=fun xs=>by
    unfold D3
    simp only [show decide ((P.length:Int)>(P.length:Int))=false from bH (by omega),bM,bR,lB]
  have hF: ∀(U V:List Pass) (q y:Pass),P.length≤U.length→(U++q::y::V).length=(P++Q++x::T).length→D3 (P.length:Int) (((U.length:Int)+1),U++q::y::V)=some (if Yy y q then .go ((U.length:Int),U++y::q::V)else .out (U++q::y::V)):=fun U V q y hP hl=>by
    unfold D3
    have hb:U.length+2≤1000000:=by rw [← hl]at hN;simp at hN;omega
    have e1:D4 ((U.length:Int)+1 - 1)=(U.length:Int):=by rw [E6 (by omega)];omega
    have g1:C3 (U++q::y::V) ((U.length:Int)+1)=some y:=by rw [nY];exact Wx _ _ _ _ (by simp)
    have g2:C3 (U++q::y::V) (U.length:Int)=some q:=Wx _ _ _ _ rfl
    have s1:Oh (U++q::y::V) ((U.length:Int)+1) q=U++q::q::V:=by rw [nY,BN _ _ _ _ _ (by simp)];simp
    have g3:C3 (U++q::q::V) (U.length:Int)=some q:=Wx _ _ _ _ rfl
    have s2:Oh (U++q::q::V) (U.length:Int) y=U++y::q::V:=BN _ _ _ _ _ rfl
    simp only [show decide (((U.length:Int)+1)>(P.length:Int))=true from bG (by omega),bK,bP,e1,g1,g2,s1,g3,s2,lB,oC,oA]
    cases Yy y q<;>rfl
  obtain ⟨Q',h1,h2,h3⟩:=QI ltP_ok (P:=P) (T:=T) (P++Q++x::T).length hstop hF x Q.length Q [] rfl (by simpa using hs) (by simp) (by simp)
  refine ⟨Q',?_,by simpa using h2,h3⟩
  rw [← h1];congr 1;simp
theorem SR (P A S:List Pass)(hN:(P++A++S).length≤1000000):
    ∃A',D8 (P++A++S) (P.length:Int) ((P.length+A.length:Nat):Int)=some (P++A'++S)∧A'.Perm A∧Srt Yy A':=by
  unfold D8
  have hend: ∀(xs:List Pass) (i:Nat),P.length+A.length≤i→E0 (P.length:Int) ((P.length+A.length:Nat):Int) ((i:Int),xs)=some (.out xs):=fun xs i hi=>by
    unfold E0
    rw [show decide ((i:Int)< ((P.length+A.length:Nat):Int))=false from bH (by omega)];rfl
  simp only [lM]at hN
  have hw:D4 ((P.length:Int)+1)=((P.length+1:Nat):Int):=by rw [E6 (by omega)];omega
  cases A with
  |nil=>
   refine ⟨[],?_,by simp,List.Pairwise.nil⟩
   rw [hw,D2 (hend _ _ (by simp))]
  |cons a A=>
   have hF: ∀(Q R:List Pass) (x:Pass),(P++Q++x::R++S).length=(P++a::A++S).length→P.length+Q.length<P.length+ (a::A).length→Srt Yy Q→∃Q',E0 (P.length:Int) ((P.length+ (a::A).length:Nat):Int) (((P.length+Q.length:Nat):Int),P++Q++x::R++S)=some (.go (((P.length+Q.length+1:Nat):Int),P++Q'++R++S))∧Q'.Perm (x::Q)∧Srt Yy Q':=fun Q R x hl hb hs=>by
     obtain ⟨Q',k1,k2,k3⟩:=YR P (R++S) x Q hs (by simp only [lM,lL]at hl hN ⊢;omega)
     refine ⟨Q',?_,k2,k3⟩
     unfold E0
     have e1:P++Q++x::R++S=P++Q++x::(R++S):=by simp
     rw [show decide (((P.length+Q.length:Nat):Int)< ((P.length+ (a::A).length:Nat):Int))=true from bG (by omega),bK]
     simp only [e1,k1,lB]
     rw [E6 (by simp only [lL]at hN hb;omega)]
     simp
   obtain ⟨A',h1,h2,h3⟩:=dL (lt:=Yy) (P:=P) (S:=S) (P++a::A++S).length (P.length+ (a::A).length) hend hF A [a] (by simp) (by simp;omega) (List.pairwise_singleton _ _)
   refine ⟨A',?_,h2,h3⟩
   rw [hw,← h1];congr 1;simp
def BlkS (w:Nat)(l:List Pass):Prop:= ∀i,Srt Yy ((l.drop (i*w)).take w)
theorem BlkS.cons {w:Nat}{M R:List Pass}(hM:M.length=w)(h1:Srt Yy M)(h2:BlkS w R):BlkS w (M++R):=by
  intro i
  cases i with
  |zero=>rw [Nat.zero_mul,List.drop_zero,List.take_append_of_le_length (by omega),List.take_of_length_le (by omega)];exact h1
  |succ i=>
   have:=h2 i
   rw [wH,Nat.one_mul,List.drop_append,List.drop_eq_nil_of_le (by omega),lQ,show i*w+w - M.length=i*w by omega]
   exact this
theorem BlkS.last {w:Nat}{M:List Pass}(hM:M.length≤w)(h1:Srt Yy M):BlkS w M:=by
  intro i
  exact h1.sublist ((List.take_sublist _ _).trans (List.drop_sublist _ _))
theorem BlkS.drop {w:Nat}{R:List Pass}(h:BlkS w R):BlkS w (R.drop w):=by
  intro i
  have:=h (i+1)
  rwa [wH,Nat.one_mul,Nat.add_comm,← List.drop_drop]at this
theorem BlkS.head {w:Nat}{R:List Pass}(h:BlkS w R):Srt Yy (R.take w):=by
  have:=h 0
  rwa [Nat.zero_mul,List.drop_zero]at this
theorem sI (n:Nat)(hn:n≤100): ∀(k:Nat) (R D:List Pass),R.length≤k→D.length+R.length=n→
    ∃y R',loop (E4 (n:Int)) ((D.length:Int),((D.length+20:Nat):Int),D++R)=some y∧D8 y.2 y.1 (n:Int)=some (D++R')∧BlkS 20 R'∧R'.Perm R:=by
  intro k
  induction k with
  |zero=>
   intro R D hk hl
   obtain rfl:=List.length_eq_zero_iff.1 (show R.length=0 by omega)
   obtain ⟨A',g1,g2,g3⟩:=SR D [] [] (by simp;omega)
   simp only [lP,lN,Nat.add_zero]at g1 hl ⊢
   refine ⟨_,A',D2 (t:=((D.length:Int),D)) ?_,by rw [← hl];exact g1, .last (by rw [g2.length_eq];simp) g3,g2⟩
   unfold E4
   rw [show decide (((D.length+20:Nat):Int)≤(n:Int))=false from bH (by omega)];rfl
  |succ k ih=>
   intro R D hk hl
   by_cases h20:20≤R.length
   ·have eR:=List.take_append_drop 20 R
    have l1:(R.take 20).length=20:=by rw [lW];omega
    obtain ⟨A',g1,g2,g3⟩:=SR D (R.take 20) (R.drop 20) (by rw [lO,eR];simp;omega)
    have lA:A'.length=20:=by rw [g2.length_eq];exact l1
    rw [l1,lO,eR]at g1
    obtain ⟨y,R',k1,k2,k3,k4⟩:=ih (R.drop 20) (D++A') (by rw [lX];omega) (by rw [lM,lX];omega)
    refine ⟨y,A'++R',?_,by rw [k2,lO], .cons lA g3 k3,?_⟩
    ·rw [← k1,show (D++A').length=D.length+20 by rw [lM,lA]]
     refine H8 ?_
     unfold E4
     simp only [show decide (((D.length+20:Nat):Int)≤(n:Int))=true from bG (by omega),bK,g1,lB]
     rw [E6 (n:=((D.length+20:Nat):Int)+20) (by omega)]
     simp
    ·exact (g2.append k4).trans (by rw [eR])
   ·obtain ⟨A',g1,g2,g3⟩:=SR D R [] (by simp;omega)
    simp only [lP]at g1
    rw [hl]at g1
    refine ⟨_,A',D2 (t:=((D.length:Int),D++R)) ?_,g1, .last (by rw [g2.length_eq];omega) g3,g2⟩
    unfold E4
    rw [show decide (((D.length+20:Nat):Int)≤(n:Int))=false from bH (by omega)];rfl
theorem dP (xs:List Pass)(h:xs.length≤19): ∃ys,F9 xs=some ys∧ys.Perm xs∧Srt Yy ys:=by
  obtain ⟨y,R,k1,k2,k3,k4⟩:=sI xs.length (by omega) xs.length xs [] (wF _) (by simp)
  refine ⟨R,?_,k4,?_⟩
  ·unfold F9 J6
   have k1':loop (E4 (xs.length:Int)) (0,20,xs)=some y:=k1
   have k2':D8 y.2 y.1 (xs.length:Int)=some R:=k2
   have g1':loop (G6 (xs.length:Int) R) 20=some R:=by
     refine D2 ?_
     unfold G6
     rw [show decide ((20:Int)< (xs.length:Int))=false from bH (by omega)];rfl
   simp only [k1',lB,k2',g1']
  ·have:=k3.head
   rwa [List.take_of_length_le (by rw [k4.length_eq];omega)]at this
theorem EN:G0=some ():=by
  have i0:F0 0 0=some ():=by
    unfold F0
    exact D2 rfl
  have h1:loop (I3 0) (0,20)=some 0:=D2 rfl
  have h2:loop (I0 0) 20=some ():=D2 rfl
  unfold G0 J7
  simp only [h1,lB,i0,h2]
end Go.Abs.World
