/-
  Plain facts on the functions: what they compute, and that the law holds of it.
-/
import Derived.Test.YtgjdiioennhoeaaGreatFns5
set_option maxRecDepth 100000
set_option synthInstance.maxHeartbeats 0
set_option synthInstance.maxSize 100000
set_option linter.unusedVariables false
namespace Go.Abs.World
open Go Go.Abs
noncomputable def Qd (p1:State)(x1:(Int×State)):Option (Stp (Int×State) State):=
  cond (decide (x1.1< (p1.Agents.length:Int))) ((C3 p1.Agents x1.1).bind fun v2=>(Am ([]:List Int) v2.Route).bind fun v3=>(Am x1.2.Agents [(Agent.mk v3 v2.S v2.V v2.Len v2.Begin v2.Obey v2.Gone)]).bind fun v4=>some (.go ((D8 (x1.1+1)),(State.mk x1.2.Tick v4 x1.2.In)))) (some (.out x1.2))
noncomputable def LM [Lp](p1:State):Option State:=
  (Am ([]:List Stay) p1.In).bind fun v1=>(loop (Qd p1) (0,(State.mk p1.Tick [] v1))).bind fun y1=>some y1
noncomputable def Zy (p3:Int)(v1:(List Int))(x1:(Int×Int)):Option (Stp (Int×Int) Int):=
  cond (decide (x1.2< (v1.length:Int))) ((C3 v1 x1.2).bind fun v3=>cond (decide (v3≤p3)) (some (.go (x1.2,(D8 (x1.2+1))))) (some (.go (x1.1,(D8 (x1.2+1)))))) (some (.out x1.1))
noncomputable def Zz [Lp](p1:Map)(p2:(List Int))(p3:Int):Option (Int×Int×Bool):=
  (Fi p1 p2).bind fun v1=>((cond (!((decide (p3<0))||((v1.length:Int)==0))) (V1 p1 p2) (some default))).bind fun v2=>cond (((decide (p3<0))||((v1.length:Int)==0))||(decide (p3>v2))) (some (0,0,false)) ((loop (Zy p3 v1) (0,0)).bind fun y1=>(C3 p2 y1).bind fun v4=>(C3 v1 y1).bind fun v5=>some (v4,(D8 (p3 - v5)),true))
noncomputable def Gy (v1:(List Int))(x1:(Int×Int)):Option (Stp (Int×Int) (Sum Int (Int×Int))):=
  cond (decide (x1.2< (D8 ((v1.length:Int) - 1)))) ((C3 v1 x1.2).bind fun v3=>cond (decide (x1.1<v3)) (some (.out (.inr (x1.2,x1.1)))) ((C3 v1 x1.2).bind fun v4=>some (.go ((D8 (x1.1 - v4)),(D8 (x1.2+1)))))) (some (.out (.inl x1.1)))
noncomputable def AA [Lp](p1:Curve)(p2:Int):Option (Int×Int):=
  (Dd p1).bind fun v1=>cond ((v1.length:Int)==0) (some (0,0)) ((De p1).bind fun v2=>thenS (loop (Gy v1) ((Ov true 0 (Ov false p2 v2)),0)) (fun y1=>some ((D8 ((v1.length:Int) - 1)),y1)) (fun r=>some r))
noncomputable def AB (p1:Int)(p2:Int):Option Int:=
  (II .i64 p1 p2).bind fun v1=>(Su p1 p2).bind fun v2=>cond (decide (v2<0)) (some (D8 (v1 - 1))) (some v1)
noncomputable def FF [Lp](p1:Curve)(p2:Int):Option Spot:=
  (Dd p1).bind fun v1=>cond ((v1.length:Int)==0) (some (Spot.mk 0 0)) ((AA p1 p2).bind fun v2=>(C3 p1.Pts (D8 (v2.1+1))).bind fun v3=>(C3 p1.Pts v2.1).bind fun v4=>(Hm v3 v4).bind fun v5=>(C3 p1.Pts v2.1).bind fun v6=>(C3 v1 v2.1).bind fun v7=>(AB (D8 (v5.X*v2.2)) v7).bind fun v8=>(C3 p1.Pts v2.1).bind fun v9=>(C3 v1 v2.1).bind fun v10=>(AB (D8 (v5.Y*v2.2)) v10).bind fun v11=>some (Spot.mk (D8 (v6.X+v8)) (D8 (v9.Y+v11))))
noncomputable def LN [Lp](p1:Map)(p2:(List Int))(p3:Int):Option Spot:=
  (V1 p1 p2).bind fun v1=>(Zz p1 p2 (Ov true 0 (Ov false p3 v1))).bind fun v2=>(C3 p1.Lanes v2.1).bind fun v3=>(FF v3.Curve_ v2.2.1).bind fun v4=>some v4
instance (a)(b)(c)(d):Le (@U1 V2 a b c d) (U1 a b c d):=by unfold U1;infer_instance
instance:Le (@Sd V2) (Sd):=by unfold Sd;infer_instance
instance (a):Le (@Mr V2 a) (Mr a):=by unfold Mr;infer_instance
instance (a):Le (@Cm V2 a) (Cm a):=by unfold Cm;infer_instance
instance curve_root_le (a):Le (@Fr V2 a) (Fr a):=by unfold Fr;infer_instance
instance (a)(b):Le (@X9 V2 a b) (X9 a b):=by unfold X9;infer_instance
instance (a):Le (@Df V2 a) (Df a):=by unfold Df;infer_instance
instance (a)(b)(c):Le (@Bn V2 a b c) (Bn a b c):=by unfold Bn;infer_instance
instance (a)(b):Le (@Q8 V2 a b) (Q8 a b):=by unfold Q8;infer_instance
instance (a):Le (@U5 V2 a) (U5 a):=by unfold U5;infer_instance
instance (a)(b):Le (@P5 V2 a b) (P5 a b):=by unfold P5;infer_instance
instance (a):Le (@U0 V2 a) (U0 a):=by unfold U0;infer_instance
instance (a):Le (@G7 V2 a) (G7 a):=by unfold G7;infer_instance
instance (a):Le (@F0 V2 a) (F0 a):=by unfold F0;infer_instance
instance (a)(b):Le (@S7 V2 a b) (S7 a b):=by unfold S7;infer_instance
instance (a)(b)(c):Le (@E8 V2 a b c) (E8 a b c):=by unfold E8;infer_instance
instance (a)(b):Le (@G5 V2 a b) (G5 a b):=by unfold G5;infer_instance
instance (a)(b):Le (@E9 V2 a b) (E9 a b):=by unfold E9;infer_instance
instance (a)(b):Le (@O8 V2 a b) (O8 a b):=by unfold O8;infer_instance
instance (a):Le (@S4 V2 a) (S4 a):=by unfold S4;infer_instance
instance piecesGo_le (pts:List Spot): ∀(n i:Nat) (s:Int),Le (@Il V2 pts n i s) (Il pts n i s)
  |0,i,s=>Le.refl _
  |n+1,i,s=>by
   unfold Il
   have:=fun i s=>piecesGo_le pts n i s
   infer_instance -- curve_root_le
instance (a):Le (@Py V2 a) (Py a):=by unfold Py;infer_instance
instance (a):Le (@Ew V2 a) (Ew a):=by unfold Ew;infer_instance
instance curve_Length_le (a):Le (@Cz V2 a) (Cz a):=by unfold Cz;infer_instance
instance (a)(b):Le (@Cp V2 a b) (Cp a b):=by unfold Cp;infer_instance
instance (a)(b)(c):Le (@Q9 V2 a b c) (Q9 a b c):=by unfold Q9;infer_instance
instance (a)(b):Le (@R0 V2 a b) (R0 a b):=by unfold R0;infer_instance
instance (a):Le (@U6 V2 a) (U6 a):=by unfold U6;infer_instance
instance (a)(b):Le (@R3 V2 a b) (R3 a b):=by unfold R3;infer_instance
instance (a):Le (@U7 V2 a) (U7 a):=by unfold U7;infer_instance
instance (a)(b):Le (@S8 V2 a b) (S8 a b):=by unfold S8;infer_instance
instance (a)(b):Le (@O6 V2 a b) (O6 a b):=by unfold O6;infer_instance
instance roads_Check_le (a):Le (@Bu V2 a) (Bu a):=by unfold Bu;infer_instance
instance (a)(b):Le (@T7 V2 a b) (T7 a b):=by unfold T7;infer_instance
instance (a)(b):Le (@N2 V2 a b) (N2 a b):=by unfold N2;infer_instance
instance (a)(b)(c):Le (@Ao V2 a b c) (Ao a b c):=by unfold Ao;infer_instance
instance (a)(b):Le (@Ez V2 a b) (Ez a b):=by unfold Ez;infer_instance
instance (a)(b)(c):Le (@Q0 V2 a b c) (Q0 a b c):=by unfold Q0;infer_instance
instance (a)(b):Le (@W3 V2 a b) (W3 a b):=by unfold W3;infer_instance
instance (a)(b)(c):Le (@V9 V2 a b c) (V9 a b c):=by unfold V9;infer_instance
instance (a)(b):Le (@Y6 V2 a b) (Y6 a b):=by unfold Y6;infer_instance
instance (a)(b):Le (@T1 V2 a b) (T1 a b):=by unfold T1;infer_instance
instance (a)(b):Le (@Bp V2 a b) (Bp a b):=by unfold Bp;infer_instance
instance (a)(b):Le (@Hr V2 a b) (Hr a b):=by unfold Hr;infer_instance
instance (a)(b):Le (@Ht V2 a b) (Ht a b):=by unfold Ht;infer_instance
instance (a)(b)(c):Le (@Z5 V2 a b c) (Z5 a b c):=by unfold Z5;infer_instance
instance (a):Le (@Cr V2 a) (Cr a):=by unfold Cr;infer_instance
instance (a)(b):Le (@Dg V2 a b) (Dg a b):=by unfold Dg;infer_instance
instance (a)(b):Le (@J4 V2 a b) (J4 a b):=by unfold J4;infer_instance
instance (a)(b):Le (@F7 V2 a b) (F7 a b):=by unfold F7;infer_instance
instance (a)(b)(c):Le (@Af V2 a b c) (Af a b c):=by unfold Af;infer_instance
instance (a)(b)(c):Le (@Ag V2 a b c) (Ag a b c):=by unfold Ag;infer_instance
instance (a)(b):Le (@Bv V2 a b) (Bv a b):=by unfold Bv;infer_instance
instance (a):Le (@L5 V2 a) (L5 a):=by unfold L5;infer_instance
instance (a):Le (@K3 V2 a) (K3 a):=by unfold K3;infer_instance
instance (a)(b):Le (@Bw V2 a b) (Bw a b):=by unfold Bw;infer_instance
instance (a)(b):Le (@C9 V2 a b) (C9 a b):=by unfold C9;infer_instance
instance (a)(b)(c):Le (@D7 V2 a b c) (D7 a b c):=by unfold D7;infer_instance
instance (a)(b)(c):Le (@D3 V2 a b c) (D3 a b c):=by unfold D3;infer_instance
instance (a)(b)(c):Le (@G6 V2 a b c) (G6 a b c):=by unfold G6;infer_instance
instance (a)(b):Le (@E3 V2 a b) (E3 a b):=by unfold E3;infer_instance
instance (a)(b):Le (@J0 V2 a b) (J0 a b):=by unfold J0;infer_instance
instance (a):Le (@F9 V2 a) (F9 a):=by unfold F9;infer_instance
instance (a)(b)(c):Le (@H7 V2 a b c) (H7 a b c):=by unfold H7;infer_instance
instance (a)(b):Le (@E7 V2 a b) (E7 a b):=by unfold E7;infer_instance
instance (a)(b):Le (@H9 V2 a b) (H9 a b):=by unfold H9;infer_instance
instance (a)(b):Le (@I0 V2 a b) (I0 a b):=by unfold I0;infer_instance
instance (a):Le (@J1 V2 a) (J1 a):=by unfold J1;infer_instance
instance:Le (@G0 V2) (G0):=by unfold G0;infer_instance
instance (a)(b)(c)(d)(e):Le (@U2 V2 a b c d e) (U2 a b c d e):=by unfold U2;infer_instance
instance (a)(b)(c):Le (@O2 V2 a b c) (O2 a b c):=by unfold O2;infer_instance
instance (a)(b):Le (@V0 V2 a b) (V0 a b):=by unfold V0;infer_instance
instance (a)(b)(c):Le (@I5 V2 a b c) (I5 a b c):=by unfold I5;infer_instance
instance (a)(b)(c):Le (@G1 V2 a b c) (G1 a b c):=by unfold G1;infer_instance
instance (a)(b)(c)(d):Le (@Dh V2 a b c d) (Dh a b c d):=by unfold Dh;infer_instance
instance (a)(b)(c):Le (@P6 V2 a b c) (P6 a b c):=by unfold P6;infer_instance
instance (a)(b)(c):Le (@H4 V2 a b c) (H4 a b c):=by unfold H4;infer_instance
instance (a)(b):Le (@F3 V2 a b) (F3 a b):=by unfold F3;infer_instance
instance (a)(b):Le (@J8 V2 a b) (J8 a b):=by unfold J8;infer_instance
instance (a)(b):Le (@Jw V2 a b) (Jw a b):=by unfold Jw;infer_instance
instance (a)(b)(c):Le (@Ah V2 a b c) (Ah a b c):=by unfold Ah;infer_instance
instance (a)(b)(c)(d):Le (@G9 V2 a b c d) (G9 a b c d):=by unfold G9;infer_instance
instance (a)(b)(c):Le (@I3 V2 a b c) (I3 a b c):=by unfold I3;infer_instance
instance (a)(b)(c):Le (@Hh V2 a b c) (Hh a b c):=by unfold Hh;infer_instance
instance (a)(b)(c):Le (@Di V2 a b c) (Di a b c):=by unfold Di;infer_instance
instance (a)(b):Le (@Lv V2 a b) (Lv a b):=by unfold Lv;infer_instance
instance (a)(b)(c):Le (@U3 V2 a b c) (U3 a b c):=by unfold U3;infer_instance
instance (a)(b)(c):Le (@Fd V2 a b c) (Fd a b c):=by unfold Fd;infer_instance
instance (a)(b)(c)(d):Le (@Hj V2 a b c d) (Hj a b c d):=by unfold Hj;infer_instance
instance (a)(b):Le (@I4 V2 a b) (I4 a b):=by unfold I4;infer_instance
instance (a)(b)(c)(d):Le (@Hy V2 a b c d) (Hy a b c d):=by unfold Hy;infer_instance
instance (a)(b)(c)(d):Le (@W4 V2 a b c d) (W4 a b c d):=by unfold W4;infer_instance
instance (a)(b):Le (@W5 V2 a b) (W5 a b):=by unfold W5;infer_instance
instance (a):Le (@Al V2 a) (Al a):=by unfold Al;infer_instance
instance (a)(b):Le (@Ai V2 a b) (Ai a b):=by unfold Ai;infer_instance
instance (a)(b)(c)(d):Le (@Br V2 a b c d) (Br a b c d):=by unfold Br;infer_instance
instance (a)(b):Le (@Ft V2 a b) (Ft a b):=by unfold Ft;infer_instance
instance (a)(b):Le (@H5 V2 a b) (H5 a b):=by unfold H5;infer_instance
instance (a)(b):Le (@F4 V2 a b) (F4 a b):=by unfold F4;infer_instance
instance (a)(b):Le (@Y9 V2 a b) (Y9 a b):=by unfold Y9;infer_instance
instance (a)(b)(c):Le (@G2 V2 a b c) (G2 a b c):=by unfold G2;infer_instance
instance (a)(b):Le (@I6 V2 a b) (I6 a b):=by unfold I6;infer_instance
instance (a)(b):Le (@G3 V2 a b) (G3 a b):=by unfold G3;infer_instance
instance (a)(b)(c):Le (@Bz V2 a b c) (Bz a b c):=by unfold Bz;infer_instance
instance (a)(b)(c)(d):Le (@W8 V2 a b c d) (W8 a b c d):=by unfold W8;infer_instance
instance (a)(b)(c)(d):Le (@Kr V2 a b c d) (Kr a b c d):=by unfold Kr;infer_instance
instance (a)(b)(c)(d)(e):Le (@Ks V2 a b c d e) (Ks a b c d e):=by unfold Ks;infer_instance
instance (a)(b):Le (@Se V2 a b) (Se a b):=by unfold Se;infer_instance
instance (a)(b)(c):Le (@M0 V2 a b c) (M0 a b c):=by unfold M0;infer_instance
instance (a)(b)(c):Le (@N3 V2 a b c) (N3 a b c):=by unfold N3;infer_instance
instance (a)(b):Le (@O0 V2 a b) (O0 a b):=by unfold O0;infer_instance
instance (a)(b)(c)(d):Le (@P7 V2 a b c d) (P7 a b c d):=by unfold P7;infer_instance
instance (a):Le (@T8 V2 a) (T8 a):=by unfold T8;infer_instance
instance (a)(b)(c):Le (@M1 V2 a b c) (M1 a b c):=by unfold M1;infer_instance
instance (a)(b):Le (@N4 V2 a b) (N4 a b):=by unfold N4;infer_instance
instance (a):Le (@O1 V2 a) (O1 a):=by unfold O1;infer_instance
instance (a)(b)(c):Le (@P8 V2 a b c) (P8 a b c):=by unfold P8;infer_instance
instance:Le (@T9 V2) (T9):=by unfold T9;infer_instance
instance (a)(b)(c)(d)(e):Le (@Kt V2 a b c d e) (Kt a b c d e):=by unfold Kt;infer_instance
instance (a)(b)(c)(d):Le (@Ku V2 a b c d) (Ku a b c d):=by unfold Ku;infer_instance
instance (a)(b)(c):Le (@Sf V2 a b c) (Sf a b c):=by unfold Sf;infer_instance
instance (a)(b)(c):Le (@Sg V2 a b c) (Sg a b c):=by unfold Sg;infer_instance
instance (a)(b)(c)(d)(e):Le (@J5 V2 a b c d e) (J5 a b c d e):=by unfold J5;infer_instance
instance (a)(b)(c)(d)(e):Le (@I8 V2 a b c d e) (I8 a b c d e):=by unfold I8;infer_instance
instance (a)(b)(c)(d)(e):Le (@Na V2 a b c d e) (Na a b c d e):=by unfold Na;infer_instance
instance (a)(b)(c)(d)(e):Le (@Jb V2 a b c d e) (Jb a b c d e):=by unfold Jb;infer_instance
instance (a)(b)(c)(d):Le (@Pe V2 a b c d) (Pe a b c d):=by unfold Pe;infer_instance
instance (a)(b)(c)(d):Le (@Pf V2 a b c d) (Pf a b c d):=by unfold Pf;infer_instance
instance (a):Le (@Jc V2 a) (Jc a):=by unfold Jc;infer_instance
instance (a)(b)(c):Le (@W9 V2 a b c) (W9 a b c):=by unfold W9;infer_instance
instance (a)(b)(c):Le (@Z0 V2 a b c) (Z0 a b c):=by unfold Z0;infer_instance
instance (a)(b)(c)(d)(e)(f)(g)(h):Le (@Gl V2 a b c d e f g h) (Gl a b c d e f g h):=by unfold Gl;infer_instance
instance (a)(b)(c)(d)(e)(f)(g)(h):Le (@Jz V2 a b c d e f g h) (Jz a b c d e f g h):=by unfold Jz;infer_instance
instance (a)(b)(c)(d)(e)(f)(g)(h)(i):Le (@Gm V2 a b c d e f g h i) (Gm a b c d e f g h i):=by unfold Gm;infer_instance
instance (a)(b)(c)(d)(e)(f)(g)(h):Le (@Lw V2 a b c d e f g h) (Lw a b c d e f g h):=by unfold Lw;infer_instance
instance (a)(b)(c)(d)(e)(f)(g)(h):Le (@Jd V2 a b c d e f g h) (Jd a b c d e f g h):=by unfold Jd;infer_instance
instance (a)(b)(c)(d)(e)(f):Le (@Lx V2 a b c d e f) (Lx a b c d e f):=by unfold Lx;infer_instance
instance (a)(b)(c)(d)(e)(f)(g)(h):Le (@Je V2 a b c d e f g h) (Je a b c d e f g h):=by unfold Je;infer_instance
instance (a)(b)(c)(d)(e)(f):Le (@Jf V2 a b c d e f) (Jf a b c d e f):=by unfold Jf;infer_instance
instance (a)(b)(c)(d)(e):Le (@Ly V2 a b c d e) (Ly a b c d e):=by unfold Ly;infer_instance
instance (a)(b)(c)(d):Le (@Jg V2 a b c d) (Jg a b c d):=by unfold Jg;infer_instance
instance (a)(b)(c)(d):Le (@Lz V2 a b c d) (Lz a b c d):=by unfold Lz;infer_instance
instance (a)(b)(c):Le (@Ph V2 a b c) (Ph a b c):=by unfold Ph;infer_instance
instance law04_awake_le:Le (@Hl V2) (Hl):=by unfold Hl;infer_instance
theorem Iu (n:Int): ∃y,Fr n=some (y,y*y==n)∧0≤y∧y≤67108864∧(∀m,0≤m→m<y→m*m<n)∧(y=67108864∨n≤y*y):=by
  have key:=SU (f:=Lu n) (fun x=>0≤x.1∧x.1≤x.2∧x.2≤67108864∧(∀m,0≤m→m<x.1→m*m<n)∧(x.2=67108864∨n≤x.2*x.2)) (fun x=>(x.2 - x.1).toNat)
    (fun y=>0≤y∧y≤67108864∧(∀m,0≤m→m<y→m*m<n)∧(y=67108864∨n≤y*y)) (by
      rintro ⟨lo,hi⟩ ⟨h1,h2,h3,h4,h5⟩
      dsimp only at h1 h2 h3 h4 h5
      unfold Lu
      dsimp only
      by_cases hlt:lo<hi
      ·have e1:D8 (lo+hi)=lo+hi:=F8 (by omega)
       have e2:D8 ((lo+hi).tdiv 2)=(lo+hi) / 2:=by rw [wL (by omega)];exact F8 (by omega)
       have hm:lo≤(lo+hi) / 2∧(lo+hi) / 2<hi:=by omega
       generalize hmid:(lo+hi) / 2=mid at*
       have hmm:mid*mid≤67108864*67108864:=YC (by omega) (by omega)
       have hmm0:=Sc mid
       have e3:D8 (mid*mid)=mid*mid:=F8 (by omega)
       have e4:D8 (mid+1)=mid+1:=F8 (by omega)
       simp only [e1,e2,e3,e4,hlt,decide_true,bJ]
       by_cases hc:mid*mid<n
       ·simp only [hc,decide_true,bJ]
        refine ⟨_,rfl,⟨by omega,by omega,h3,fun m hm0 hm1=> ?_,h5⟩,by dsimp only;omega⟩
        rcases Int.lt_or_le m mid with q|q
        ·have:=Int.mul_le_mul (show m≤mid by omega) (show m≤mid by omega) hm0 (by omega);omega
        ·have:m=mid:=by dsimp only at hm1;omega
         subst this;exact hc
       ·simp only [hc,decide_false,bK]
        exact ⟨_,rfl,⟨h1,by dsimp only;omega,by dsimp only;omega,h4, .inr (by dsimp only;omega)⟩,by dsimp only;omega⟩
      ·simp only [hlt,decide_false,bK]
       obtain rfl:lo=hi:=by omega
       exact ⟨_,rfl,h1,h3,h4,h5⟩) (0,67108864) ⟨by decide,by decide,by decide,fun m h1 h2=>by dsimp only at h2;omega, .inl rfl⟩
  obtain ⟨y,hy,h1,h2,h3,h4⟩:=key
  refine ⟨y,?_,h1,h2,h3,h4⟩
  have hmm:y*y≤67108864*67108864:=YC (by omega) (by omega)
  have hmm0:=Sc y
  unfold Fr
  rw [hy,lB,F8 (by omega)]
/-- The least number whose square is not less. -/
noncomputable def rt (n:Int):Int:=(Iu n).choose
theorem CE (n:Int):Fr n=some (rt n,rt n*rt n==n):=(Iu n).choose_spec.1
theorem GN (n:Int):0≤rt n:=(Iu n).choose_spec.2.1
theorem oK (n m:Int)(h1:0≤m)(h2:m<rt n):m*m<n:=(Iu n).choose_spec.2.2.2.1 m h1 h2
theorem oL (n:Int):rt n=67108864∨n≤rt n*rt n:=(Iu n).choose_spec.2.2.2.2
theorem fV {l:Int}(h0:0≤l)(h1:l≤67108864):rt (l*l)=l:=by
  rcases Int.lt_trichotomy (rt (l*l)) l with q|q|q
  ·rcases oL (l*l)with h|h
   ·omega
   ·have h2:=GN (l*l)
    have:=Int.mul_lt_mul' (show rt (l*l)≤l by omega) q h2 (by omega);omega
  ·exact q
  ·have:=oK (l*l) l h0 q;omega
theorem IS (n:Int)(h0:0≤n)(h1:n<18014398509481984): ∃r,Ka n=some r∧0≤r∧r<134217728∧r*r≤n∧n< (r+1)* (r+1):=by
  have key:=SU (f:=Ma n) (fun x=>0≤x.1∧x.1*x.1≤n∧((∃k:Nat,k≤26∧x.2=2^k∧x.1+2*2^k≤134217728∧n< (x.1+2*2^k)* (x.1+2*2^k))∨(x.2=0∧x.1<134217728∧n< (x.1+1)* (x.1+1)))) (fun x=>x.2.toNat)
    (fun r=>0≤r∧r<134217728∧r*r≤n∧n< (r+1)* (r+1)) (by
      rintro ⟨r,bit⟩ ⟨q1,q2,q3⟩
      dsimp only at q1 q2 q3
      unfold Ma
      dsimp only
      rcases q3 with ⟨k,hk,rfl,q4,q5⟩|⟨rfl,q4,q5⟩
      ·have hp:(0:Int)<2^k:=Int.pow_pos (by decide)
       generalize hb:(2:Int)^k=b at*
       have e1:D8 (r+b)=r+b:=F8 (by omega)
       have hmm:(r+b)* (r+b)≤134217728*134217728:=YC (by omega) (by omega)
       have hmm0:=Sc (r+b)
       have e2:D8 ((r+b)* (r+b))=(r+b)* (r+b):=F8 (by omega)
       have e3:D8 (b.tdiv 2)=b / 2:=by rw [wL (by omega)];exact F8 (by omega)
       have hb0:b>0:=by omega
       simp only [e1,e2,e3,hb0,decide_true,bJ]
       have hnext: ∀r',0≤r'→r'*r'≤n→r'+b≤134217728→n< (r'+b)* (r'+b)→(∃j:Nat,j≤26∧b / 2=2^j∧r'+2*2^j≤134217728∧n< (r'+2*2^j)* (r'+2*2^j))∨(b / 2=0∧r'<134217728∧n< (r'+1)* (r'+1)):=by
         intro r' a1 a2 a3 a4
         cases k with
         |zero=>
          have:b=1:=by rw [← hb];rfl
          subst this
          exact .inr ⟨by decide,by omega,a4⟩
         |succ j=>
          have hj:b=2*2^j:=by rw [← hb,Int.pow_succ];omega
          refine .inl ⟨j,by omega,by omega,by omega,by rw [← hj];exact a4⟩
       by_cases hc:(r+b)* (r+b)≤n
       ·simp only [hc,decide_true,bJ]
        refine ⟨_,rfl,⟨by dsimp only;omega,hc,hnext (r+b) (by omega) hc (by omega) (by rw [show r+b+b=r+2*b by omega];exact q5)⟩,by dsimp only;omega⟩
       ·simp only [hc,decide_false,bK]
        exact ⟨_,rfl,⟨q1,q2,hnext r q1 q2 (by omega) (by omega)⟩,by dsimp only;omega⟩
      ·simp only [show ¬(0:Int)>0 by decide,decide_false,bK]
       exact ⟨_,rfl,q1,q4,q2,q5⟩) (0,67108864) ⟨by decide,by dsimp only;omega, .inl ⟨26,by decide,by decide,by decide,by dsimp only;omega⟩⟩
  obtain ⟨r,hr,a⟩:=key
  exact ⟨r,by unfold Ka;rw [hr];rfl,a⟩
theorem NO {n:Int}(h0:0≤n)(h1:n≤4503599627370496): ∃r,Ka n=some r∧0≤r∧r<134217728∧(r*r=n↔rt n*rt n=n)∧(r*r=n→r=rt n):=by
  obtain ⟨r,hr,a1,a2,a3,a4⟩:=IS n h0 (by omega)
  have hr26:r≤67108864:=by
    rcases Int.lt_or_le r 67108865 with q|q
    ·omega
    ·have:=Int.mul_le_mul q q (by decide) (by omega);omega
  refine ⟨r,hr,a1,a2,⟨fun h=> ?_,fun h=> ?_⟩,fun h=> ?_⟩
  ·rw [← h,fV a1 hr26]
  ·rcases Int.lt_trichotomy r (rt n)with q|q|q
   ·have:=Int.mul_le_mul (show r+1≤rt n by omega) (show r+1≤rt n by omega) (by omega) (GN n);omega
   ·rw [q];exact h
   ·have h2:=GN n
    have:=Int.mul_lt_mul' (show rt n≤r by omega) q h2 (by omega);omega
  ·rw [← h,fV a1 hr26]
def Kj (p:Spot):Bool:=decide (-16777216≤p.X)&&decide (p.X≤16777216)&&decide (-16777216≤p.Y)&&decide (p.Y≤16777216)
theorem okS_iff {p:Spot}:Kj p=true↔ -16777216≤p.X∧p.X≤16777216∧ -16777216≤p.Y∧p.Y≤16777216:=by simp [Kj,and_assoc]
theorem aE (p:Spot):((decide ((Ov false p.X p.Y)< (-16777216)))||(decide ((Ov true p.X p.Y)>16777216)))= !Kj p:=by
  rw [Nv,Nu]
  cases h:Kj p with
  |true=>have:=okS_iff.1 h;simp;omega
  |false=>
   have: ¬(-16777216≤p.X∧p.X≤16777216∧ -16777216≤p.Y∧p.Y≤16777216):=fun q=>by rw [okS_iff.2 q]at h;cases h
   simp;omega
theorem NP (l:List Spot)(hl:l.length≤1000000): ∀(r:List Spot) (i:Nat),l.drop i=r→loop (Fq l) (i:Int)=some (if r.all Kj then .inl ()else .inr false):=by
  intro r
  induction r with
  |nil=>
   intro i hi
   have:=O5 hi
   refine D2 ?_
   unfold Fq
   simp only [show ¬(i:Int)<l.length by omega,decide_false,bK,List.all_nil,if_true]
  |cons p r ih=>
   intro i hi
   have hlt:=M9 hi
   have hstep:Fq l (i:Int)=if Kj p then some (.go ((i+1:Nat):Int))else some (.out (.inr false)):=by
     unfold Fq
     simp only [show (i:Int)<l.length by omega,decide_true,bJ,X4 hi,lB,aE]
     cases h:Kj p with
     |true=>simp only [bT,bK,if_true];rw [F8 (by omega)];rfl
     |false=>simp
   cases h:Kj p with
   |true=>
    rw [h,bM rfl]at hstep
    rw [J9 hstep,ih (i+1) (K0 hi)]
    simp [h]
   |false=>
    rw [h]at hstep
    rw [D2 hstep]
    simp [h]
theorem Me (l:List Spot)(hl:l.length≤1000000):Cm l=some (l.all Kj):=by
  unfold Cm
  have:=NP l hl l 0 (by simp)
  rw [show ((0:Nat):Int)=0 from rfl]at this
  rw [this]
  cases l.all Kj<;>rfl
theorem LO (p:Spot):Qq p=some (Kj p):=by
  unfold Qq Kj;rfl
def N6 (p q:Spot):CurveVector:=⟨q.X - p.X,q.Y - p.Y⟩
def M7 (v w:CurveVector):Int:=v.x*w.x+v.y*w.y
/-- A vector between valid spots. -/
def UR (v:CurveVector):Prop:= -33554432≤v.x∧v.x≤33554432∧ -33554432≤v.y∧v.y≤33554432
theorem Qe {p q:Spot}(hp:Kj p=true)(hq:Kj q=true):UR (N6 p q):=by
  have:=okS_iff.1 hp;have:=okS_iff.1 hq
  unfold UR N6;dsimp only;omega
theorem Mf {p q:Spot}(hp:Kj p=true)(hq:Kj q=true):Hq p q=some (N6 p q):=by
  have:=okS_iff.1 hp;have:=okS_iff.1 hq
  unfold Hq N6
  rw [F8 (by omega),F8 (by omega)]
theorem WL {v w:CurveVector}(hv:UR v)(hw:UR w): -2251799813685248≤M7 v w∧M7 v w≤2251799813685248∧(-1125899906842624≤v.x*w.x∧v.x*w.x≤1125899906842624)∧ -1125899906842624≤v.y*w.y∧v.y*w.y≤1125899906842624:=by
  obtain ⟨a1,a2,a3,a4⟩:=hv
  obtain ⟨b1,b2,b3,b4⟩:=hw
  have h1:=CV ⟨a1,a2⟩ ⟨b1,b2⟩
  have h2:=CV ⟨a3,a4⟩ ⟨b3,b4⟩
  unfold M7
  omega
theorem Rw {v w:CurveVector}(hv:UR v)(hw:UR w):Z3 v w=some (M7 v w):=by
  have h:=WL hv hw
  unfold Z3
  rw [F8 (n:=v.x*w.x) (by omega),F8 (n:=v.y*w.y) (by omega),F8 (by unfold M7 at h;omega)]
  rfl
theorem WM (v:CurveVector):0≤M7 v v:=by have:=Sc v.x;have:=Sc v.y;unfold M7;omega
def vs (v:CurveVector):Spot:=⟨v.x,v.y⟩
theorem Ol {p q:Spot}(hp:Kj p=true)(hq:Kj q=true):Hm q p=some (vs (N6 p q)):=by
  have:=okS_iff.1 hp;have:=okS_iff.1 hq
  unfold Hm N6 vs
  rw [F8 (by omega),F8 (by omega)]
theorem Ww {v w:CurveVector}(hv:UR v)(hw:UR w):Nb (vs v) (vs w)=some (M7 v w):=by
  have h:=WL hv hw
  unfold Nb vs
  dsimp only
  rw [F8 (n:=v.x*w.x) (by omega),F8 (n:=v.y*w.y) (by omega),F8 (by unfold M7 at h;omega)]
  rfl
/-- The error of a chain of points, from a piece on; the piece ahead of it. -/
noncomputable def TK:Option CurveVector→List Spot→Int
  |last,p::q::r=>
   if rt (M7 (N6 p q) (N6 p q))*rt (M7 (N6 p q) (N6 p q))≠M7 (N6 p q) (N6 p q)then 3
   else if rt (M7 (N6 p q) (N6 p q))<1000∨rt (M7 (N6 p q) (N6 p q))>1048576 then 2
   else match last with
     |some u=>if M7 u (N6 p q)≤0 then 12 else TK (some (N6 p q)) (q::r)
     |none=>TK (some (N6 p q)) (q::r)
  |_,_=>0
theorem FG (last:Option CurveVector)(p q:Spot)(r:List Spot):TK last (p::q::r)=
    if rt (M7 (N6 p q) (N6 p q))*rt (M7 (N6 p q) (N6 p q))≠M7 (N6 p q) (N6 p q)then 3
    else if rt (M7 (N6 p q) (N6 p q))<1000∨rt (M7 (N6 p q) (N6 p q))>1048576 then 2
    else match last with
      |some u=>if M7 u (N6 p q)≤0 then 12 else TK (some (N6 p q)) (q::r)
      |none=>TK (some (N6 p q)) (q::r):=by
  conv=>lhs;unfold TK
noncomputable def Ay (l:List Spot):Int:=if l.length<2 then 6 else if l.length>16 then 5 else if l.all Kj then TK none l else 2
theorem LP (c:Curve)(hl:c.Pts.length≤1000000)(hok:c.Pts.all Kj=true): ∀(r:List Spot) (p:Spot) (i:Nat) (last:CurveVector),c.Pts.drop i=p::r→UR last→
    loop (X9 c) ((i:Int),last)=some (if TK (if i=0 then none else some last) (p::r)=0 then .inl ()else .inr (TK (if i=0 then none else some last) (p::r))):=by
  intro r
  induction r with
  |nil=>
   intro p i last hi hlast
   have hlt:=M9 hi
   have:=O5 (K0 hi)
   refine D2 ?_
   unfold X9
   dsimp only
   rw [F8 (n:=(c.Pts.length:Int) - 1) (by omega)]
   simp only [show ¬(i:Int)< (c.Pts.length:Int) - 1 by omega,decide_false,bK,TK,if_true]
  |cons q r ih=>
   intro p i last hi hlast
   have hlt:=M9 hi
   have hi1:=K0 hi
   have hlt1:=M9 hi1
   have hp:Kj p=true:=l6.1 hok p (List.mem_of_mem_drop (i:=i) (by rw [hi];simp))
   have hq:Kj q=true:=l6.1 hok q (List.mem_of_mem_drop (i:=i) (by rw [hi];simp))
   have hv:=Qe hp hq
   have hg1:C3 c.Pts ((i:Int)+1)=some q:=by have:=X4 hi1;simpa using this
   have hstep:X9 c ((i:Int),last)=
    if rt (M7 (N6 p q) (N6 p q))*rt (M7 (N6 p q) (N6 p q))≠M7 (N6 p q) (N6 p q)then some (.out (.inr 3))
    else if rt (M7 (N6 p q) (N6 p q))<1000∨rt (M7 (N6 p q) (N6 p q))>1048576 then some (.out (.inr 2))
    else if i≠0∧M7 last (N6 p q)≤0 then some (.out (.inr 12))else some (.go (((i+1:Nat):Int),N6 p q)):=by
     unfold X9
     dsimp only
     rw [F8 (n:=(c.Pts.length:Int) - 1) (by omega),F8 (n:=(i:Int)+1) (by omega)]
     simp only [show (i:Int)< (c.Pts.length:Int) - 1 by omega,decide_true,bJ,X4 hi,hg1,lB,Mf hp hq,Rw hv hv,CE]
     by_cases h1:rt (M7 (N6 p q) (N6 p q))*rt (M7 (N6 p q) (N6 p q))=M7 (N6 p q) (N6 p q)
     ·simp only [h1,beq_self_eq_true,bT,bK,ne_eq,not_true_eq_false,if_false]
      by_cases h2:rt (M7 (N6 p q) (N6 p q))<1000∨rt (M7 (N6 p q) (N6 p q))>1048576
      ·rw [bM h2]
       have:(decide (rt (M7 (N6 p q) (N6 p q))<1000)||decide (rt (M7 (N6 p q) (N6 p q))>1048576))=true:=by simpa using h2
       rw [this];rfl
      ·rw [bN h2]
       have:(decide (rt (M7 (N6 p q) (N6 p q))<1000)||decide (rt (M7 (N6 p q) (N6 p q))>1048576))=false:=by simpa using h2
       rw [this]
       simp only [bK]
       by_cases h3:i=0
       ·subst h3
        simp only [Int.natCast_zero,gt_iff_lt,Int.lt_irrefl,decide_false,bK,bQ,lB,not_true_eq_false,false_and,if_false]
        rfl
       ·have h4:(i:Int)>0:=by omega
        simp only [h4,decide_true,bJ,Rw hlast hv,lB,bO,h3,not_false_eq_true,true_and]
        by_cases h5:M7 last (N6 p q)≤0<;>simp [h5]
     ·have:(rt (M7 (N6 p q) (N6 p q))*rt (M7 (N6 p q) (N6 p q))==M7 (N6 p q) (N6 p q))=false:=by simpa using h1
      simp only [this,bU,bJ,ne_eq,h1,not_false_eq_true,if_true]
   rw [FG]
   by_cases h1:rt (M7 (N6 p q) (N6 p q))*rt (M7 (N6 p q) (N6 p q))≠M7 (N6 p q) (N6 p q)
   ·rw [bM h1]at hstep
    rw [D2 hstep,bM h1];rfl
   ·rw [bN h1]at hstep ⊢
    by_cases h2:rt (M7 (N6 p q) (N6 p q))<1000∨rt (M7 (N6 p q) (N6 p q))>1048576
    ·rw [bM h2]at hstep
     rw [D2 hstep,bM h2];rfl
    ·rw [bN h2]at hstep ⊢
     by_cases h3:i=0
     ·subst h3
      rw [bN (by simp)]at hstep
      rw [J9 hstep,ih q (0+1) (N6 p q) hi1 hv]
      simp
     ·by_cases h5:M7 last (N6 p q)≤0
      ·rw [bM ⟨h3,h5⟩]at hstep
       rw [D2 hstep]
       simp [h3,h5]
      ·rw [bN (fun h=>h5 h.2)]at hstep
       rw [J9 hstep,ih q (i+1) (N6 p q) hi1 hv]
       simp [h3,h5]
theorem Om (c:Curve)(hl:c.Pts.length≤1000000):Df c=some (Ay c.Pts):=by
  unfold Df Ay
  by_cases h1:c.Pts.length<2
  ·rw [bM h1,show decide ((c.Pts.length:Int)<2)=true by simp;omega];rfl
  ·rw [bN h1,show decide ((c.Pts.length:Int)<2)=false by simp;omega]
   simp only [bK]
   by_cases h2:c.Pts.length>16
   ·rw [bM h2,show decide ((c.Pts.length:Int)>16)=true by simp;omega];rfl
   ·rw [bN h2,show decide ((c.Pts.length:Int)>16)=false by simp;omega]
    simp only [bK,Me c.Pts hl,lB]
    cases h3:c.Pts.all Kj with
    |false=>rfl
    |true=>
     simp only [bT,bK,if_true]
     cases hp:c.Pts with
     |nil=>rw [hp]at h1;simp at h1
     |cons p r=>
      have:=LP c hl h3 r p 0 ⟨0,0⟩ (by rw [hp];rfl) ⟨by decide,by decide,by decide,by decide⟩
      rw [bM rfl,show ((0:Nat):Int)=0 from rfl]at this
      rw [this]
      by_cases h4:TK none (p::r)=0
      ·rw [bM h4,h4];rfl
      ·rw [bN h4];rfl
theorem aF (v w:CurveVector):M7 v w=M7 w v:=by unfold M7;rw [Int.mul_comm v.x,Int.mul_comm v.y]
theorem IT (c:Curve)(hl:c.Pts.length≤1000000): ∀(r:List Spot) (i:Nat),c.Pts.drop i=r→loop (Dx c) (i:Int)=some (if r.all Kj then .inl ()else .inr 2):=by
  intro r
  induction r with
  |nil=>
   intro i hi
   have:=O5 hi
   refine D2 ?_
   unfold Dx
   simp only [show ¬(i:Int)<c.Pts.length by omega,decide_false,bK,List.all_nil,if_true]
  |cons p r ih=>
   intro i hi
   have hlt:=M9 hi
   have hstep:Dx c (i:Int)=if Kj p then some (.go ((i+1:Nat):Int))else some (.out (.inr 2)):=by
     unfold Dx
     simp only [show (i:Int)<c.Pts.length by omega,decide_true,bJ,X4 hi,lB,LO]
     cases h:Kj p with
     |true=>simp only [bT,bK,if_true];rw [F8 (by omega)];rfl
     |false=>simp
   cases h:Kj p with
   |true=>
    rw [h,bM rfl]at hstep
    rw [J9 hstep,ih (i+1) (K0 hi)]
    simp [h]
   |false=>
    rw [h]at hstep
    rw [D2 hstep]
    simp [h]
theorem fW {v:CurveVector}(hv:UR v): ∃l,Ka (M7 v v)=some l∧(D8 (l*l) !=M7 v v)= !(rt (M7 v v)*rt (M7 v v)==M7 v v)∧(rt (M7 v v)*rt (M7 v v)=M7 v v→l=rt (M7 v v)):=by
  have hb:=WL hv hv
  obtain ⟨l,h1,h2,h3,h4,h5⟩:=NO (WM v) (by omega)
  have hmm:l*l≤134217728*134217728:=YC (by omega) (by omega)
  have hmm0:=Sc l
  refine ⟨l,h1,?_,fun h=>h5 (h4.2 h)⟩
  rw [F8 (by omega)]
  by_cases h:l*l=M7 v v
  ·simp [h,h4.1 h]
  ·have h': ¬rt (M7 v v)*rt (M7 v v)=M7 v v:=fun q=>h (h4.2 q)
   have e1:(l*l !=M7 v v)=true:=bne_iff_ne.2 h
   have e2:(rt (M7 v v)*rt (M7 v v)==M7 v v)=false:=beq_eq_false_iff_ne.2 h'
   rw [e1,e2];rfl
theorem IU (c:Curve)(hl:c.Pts.length≤1000000)(hok:c.Pts.all Kj=true): ∀(r:List Spot) (p:Spot) (i:Nat) (last:Option CurveVector),c.Pts.drop i=p::r→
    (i=0∧last=none∨∃j a,i=j+1∧c.Pts.drop j=a::p::r∧last=some (N6 a p))→
    loop (Dw c) (i:Int)=some (if TK last (p::r)=0 then .inl ()else .inr (TK last (p::r))):=by
  intro r
  induction r with
  |nil=>
   intro p i last hi hlast
   have hlt:=M9 hi
   have:=O5 (K0 hi)
   refine D2 ?_
   unfold Dw
   rw [F8 (n:=(i:Int)+1) (by omega)]
   simp only [show ¬(i:Int)+1< (c.Pts.length:Int) by omega,decide_false,bK,TK,if_true]
  |cons q r ih=>
   intro p i last hi hlast
   have hlt:=M9 hi
   have hi1:=K0 hi
   have hlt1:=M9 hi1
   have hp:Kj p=true:=l6.1 hok p (List.mem_of_mem_drop (i:=i) (by rw [hi];simp))
   have hq:Kj q=true:=l6.1 hok q (List.mem_of_mem_drop (i:=i) (by rw [hi];simp))
   have hv:=Qe hp hq
   have hg1:C3 c.Pts ((i:Int)+1)=some q:=by have:=X4 hi1;simpa using this
   obtain ⟨l,hl1,hl2,hl3⟩:=fW hv
   have hstep:Dw c (i:Int)=
    if rt (M7 (N6 p q) (N6 p q))*rt (M7 (N6 p q) (N6 p q))≠M7 (N6 p q) (N6 p q)then some (.out (.inr 3))
    else if rt (M7 (N6 p q) (N6 p q))<1000∨rt (M7 (N6 p q) (N6 p q))>1048576 then some (.out (.inr 2))
    else match last with
      |some u=>if M7 u (N6 p q)≤0 then some (.out (.inr 12))else some (.go ((i+1:Nat):Int))
      |none=>some (.go ((i+1:Nat):Int)):=by
     unfold Dw
     rw [F8 (n:=(i:Int)+1) (by omega)]
     simp only [show (i:Int)+1< (c.Pts.length:Int) by omega,decide_true,bJ,X4 hi,hg1,lB,Ol hp hq,Ww hv hv,hl1,hl2]
     by_cases h1:rt (M7 (N6 p q) (N6 p q))*rt (M7 (N6 p q) (N6 p q))=M7 (N6 p q) (N6 p q)
     ·simp only [h1,beq_self_eq_true,bT,bK,ne_eq,not_true_eq_false,if_false,hl3 h1]
      by_cases h2:rt (M7 (N6 p q) (N6 p q))<1000∨rt (M7 (N6 p q) (N6 p q))>1048576
      ·rw [bM h2]
       have:(decide (rt (M7 (N6 p q) (N6 p q))<1000)||decide (rt (M7 (N6 p q) (N6 p q))>1048576))=true:=by simpa using h2
       rw [this];rfl
      ·rw [bN h2]
       have:(decide (rt (M7 (N6 p q) (N6 p q))<1000)||decide (rt (M7 (N6 p q) (N6 p q))>1048576))=false:=by simpa using h2
       rw [this]
       simp only [bK]
       rcases hlast with ⟨rfl,rfl⟩|⟨j,a,rfl,hj,rfl⟩
       ·simp only [Int.natCast_zero,gt_iff_lt,Int.lt_irrefl,decide_false,bK,bQ,lB]
        rfl
       ·have h4:(((j+1:Nat):Int))>0:=by omega
        have ha:Kj a=true:=l6.1 hok a (List.mem_of_mem_drop (i:=j) (by rw [hj];simp))
        have hva:=Qe ha hp
        have hgj:C3 c.Pts (D8 (((j+1:Nat):Int) - 1))=some a:=by
          rw [F8 (by omega),show (((j+1:Nat):Int) - 1)=(j:Int) by omega]
          exact X4 hj
        simp only [h4,decide_true,bJ,hgj,lB,Ol ha hp,Ww hv hva,bO]
        rw [aF (N6 p q) (N6 a p)]
        by_cases h5:M7 (N6 a p) (N6 p q)≤0
        ·simp [h5]
        ·simp [h5]
     ·have:(rt (M7 (N6 p q) (N6 p q))*rt (M7 (N6 p q) (N6 p q))==M7 (N6 p q) (N6 p q))=false:=by simpa using h1
      simp only [this,bU,bJ,ne_eq,h1,not_false_eq_true,if_true]
   rw [FG]
   have hrec:=ih q (i+1) (some (N6 p q)) hi1 (.inr ⟨i,p,rfl,hi,rfl⟩)
   by_cases h1:rt (M7 (N6 p q) (N6 p q))*rt (M7 (N6 p q) (N6 p q))≠M7 (N6 p q) (N6 p q)
   ·rw [bM h1]at hstep
    rw [D2 hstep,bM h1];rfl
   ·rw [bN h1]at hstep ⊢
    by_cases h2:rt (M7 (N6 p q) (N6 p q))<1000∨rt (M7 (N6 p q) (N6 p q))>1048576
    ·rw [bM h2]at hstep
     rw [D2 hstep,bM h2];rfl
    ·rw [bN h2]at hstep ⊢
     cases last with
     |none=>rw [J9 hstep,hrec]
     |some u=>
      dsimp only at hstep ⊢
      by_cases h5:M7 u (N6 p q)≤0
      ·rw [bM h5]at hstep
       rw [D2 hstep];simp [h5]
      ·rw [bN h5]at hstep
       rw [J9 hstep,hrec];simp [h5]
theorem AD (c:Curve)(hl:c.Pts.length≤1000000):Nc c=some (Ay c.Pts):=by
  unfold Nc Ay
  by_cases h1:c.Pts.length<2
  ·rw [bM h1,show decide ((c.Pts.length:Int)<2)=true by simp;omega];rfl
  ·rw [bN h1,show decide ((c.Pts.length:Int)<2)=false by simp;omega]
   simp only [bK]
   by_cases h2:c.Pts.length>16
   ·rw [bM h2,show decide ((c.Pts.length:Int)>16)=true by simp;omega];rfl
   ·rw [bN h2,show decide ((c.Pts.length:Int)>16)=false by simp;omega]
    have hg:=IT c hl c.Pts 0 (by simp)
    rw [show ((0:Nat):Int)=0 from rfl]at hg
    simp only [bK,hg]
    cases h3:c.Pts.all Kj with
    |false=>rfl
    |true=>
     simp only [if_true,thenS]
     cases hp:c.Pts with
     |nil=>rw [hp]at h1;simp at h1
     |cons p r=>
      have:=IU c hl h3 r p 0 none (by rw [hp];rfl) (.inl ⟨rfl,rfl⟩)
      rw [show ((0:Nat):Int)=0 from rfl]at this
      rw [this]
      by_cases h4:TK none (p::r)=0
      ·rw [bM h4,h4]
      ·rw [bN h4]
/-- What a valid chain is. -/
inductive Good:Option CurveVector→List Spot→Prop
  |one (last:Option CurveVector) (p:Spot):Good last [p]
  |cons (last:Option CurveVector) (p q:Spot) (r:List Spot) (h1:rt (M7 (N6 p q) (N6 p q))*rt (M7 (N6 p q) (N6 p q))=M7 (N6 p q) (N6 p q)) (h2:1000≤rt (M7 (N6 p q) (N6 p q))) (h3:rt (M7 (N6 p q) (N6 p q))≤1048576)
     (h4: ∀u,last=some u→0<M7 u (N6 p q)) (h:Good (some (N6 p q)) (q::r)):Good last (p::q::r)
theorem TL: ∀(r:List Spot) (p:Spot) (last:Option CurveVector),TK last (p::r)=0→Good last (p::r):=by
  intro r
  induction r with
  |nil=>intro p last _;exact .one _ _
  |cons q r ih=>
   intro p last h
   rw [FG]at h
   split at h
   ·cases h
   ·rename_i h1
    split at h
    ·cases h
    ·rename_i h2
     have h1:rt (M7 (N6 p q) (N6 p q))*rt (M7 (N6 p q) (N6 p q))=M7 (N6 p q) (N6 p q):=by simpa using h1
     cases last with
     |none=>exact .cons _ _ _ _ h1 (by omega) (by omega) (fun u hu=>by cases hu) (ih q _ h)
     |some u=>
      dsimp only at h
      split at h
      ·cases h
      ·exact .cons _ _ _ _ h1 (by omega) (by omega) (fun u' hu=>by cases hu;omega) (ih q _ h)
theorem TM {last:Option CurveVector}{l:List Spot}(h:Good last l):TK last l=0:=by
  induction h with
  |one=>rfl
  |cons last p q r h1 h2 h3 h4 h ih=>
   rw [FG,bN (by simpa using h1),bN (by omega)]
   cases last with
   |none=>exact ih
   |some u=>dsimp only;rw [bN (by have:=h4 u rfl;omega)];exact ih
structure Valid (l:List Spot):Prop where
  two:2≤l.length
  most:l.length≤16
  ok:l.all Kj=true
  good:Good none l
theorem checkM_zero {l:List Spot}:Ay l=0↔Valid l:=by
  unfold Ay
  constructor
  ·intro h
   split at h
   ·cases h
   ·rename_i h1
    split at h
    ·cases h
    ·rename_i h2
     split at h
     ·rename_i h3
      cases l with
      |nil=>simp at h1
      |cons p r=>exact ⟨by omega,by omega,h3,TL r p none h⟩
     ·cases h
  ·rintro ⟨h1,h2,h3,h4⟩
   rw [bN (by omega),bN (by omega),bM h3]
   exact TM h4
/-- The pieces of a chain: the number, the piece. -/
noncomputable def Mo:Nat→Int→List Spot→List (Int×CurvePiece)
  |i,s,p::q::r=>((i:Int),⟨p,N6 p q,rt (M7 (N6 p q) (N6 p q)),s⟩)::Mo (i+1) (D8 (s+rt (M7 (N6 p q) (N6 p q)))) (q::r)
  |_,_,_=> []
theorem Wx (i:Nat)(s:Int)(p q:Spot)(r:List Spot):Mo i s (p::q::r)=((i:Int),⟨p,N6 p q,rt (M7 (N6 p q) (N6 p q)),s⟩)::Mo (i+1) (D8 (s+rt (M7 (N6 p q) (N6 p q)))) (q::r):=by conv=>lhs;unfold Mo
theorem TN (pts:List Spot)(hok:pts.all Kj=true): ∀(r:List Spot) (p:Spot) (i:Nat) (s:Int),pts.drop i=p::r→Il pts r.length i s=some (Mo i s (p::r)):=by
  intro r
  induction r with
  |nil=>intro p i s _;rfl
  |cons q r ih=>
   intro p i s hi
   have hi1:=K0 hi
   have hp:Kj p=true:=l6.1 hok p (List.mem_of_mem_drop (i:=i) (by rw [hi];simp))
   have hq:Kj q=true:=l6.1 hok q (List.mem_of_mem_drop (i:=i) (by rw [hi];simp))
   have hv:=Qe hp hq
   have h0:pts[i]? =some p:=by have:=congrArg (fun z=>z[0]?) hi;simpa using this
   have h1:pts[i+1]? =some q:=by have:=congrArg (fun z=>z[0]?) hi1;simpa using this
   rw [lL,Il,h0,h1]
   simp only [lB,Mf hp hq,Rw hv hv,CE]
   rw [ih q (i+1) _ hi1,Wx]
   rfl
theorem LQ {pts:List Spot}(h:Valid pts):Py pts=some (Mo 0 0 pts):=by
  unfold Py
  have:=h.most
  rw [bM (by omega)]
  cases hp:pts with
  |nil=>have:=h.two;rw [hp]at this;simp at this
  |cons p r=>exact TN (p::r) (by rw [← hp];exact h.ok) r p 0 0 rfl
/-- The lengths. -/
noncomputable def Z9:List Spot→List Int
  |p::q::r=>rt (M7 (N6 p q) (N6 p q))::Z9 (q::r)
  |_=> []
theorem Sj (p q:Spot)(r:List Spot):Z9 (p::q::r)=rt (M7 (N6 p q) (N6 p q))::Z9 (q::r):=by conv=>lhs;unfold Z9
theorem Ho: ∀(r:List Spot) (p:Spot),(Z9 (p::r)).length=r.length
  | [],_=>rfl
  |q::r,p=>by rw [Sj,lL,Ho r q,lL]
theorem FH: ∀(r:List Spot) (p:Spot) (i:Nat) (s:Int),(Mo i s (p::r)).map (·.2.l)=Z9 (p::r)
  | [],_,_,_=>rfl
  |q::r,p,i,s=>by rw [Wx,Sj,lR,FH r q]
theorem TO: ∀(L:List (Int×CurvePiece)) (out:List Int),out.length+L.length≤1000000000→loopL Ep (fun x=>x) L out=some (out++L.map (·.2.l)):=by
  intro L
  induction L with
  |nil=>intro out _;simp [loopL]
  |cons a L ih=>
   intro out h
   simp only [lL]at h
   have:Ep out a=some (.go (out++ [a.2.l])):=by
     unfold Ep
     rw [Ee (by simp;omega)];rfl
   rw [loopL,this]
   dsimp only
   rw [ih _ (by simp;omega)]
   simp
theorem IV (c:Curve)(hl:c.Pts.length≤1000000):Ew c=some (if Ay c.Pts=0 then Z9 c.Pts else []):=by
  unfold Ew
  rw [Om c hl,lB]
  by_cases h:Ay c.Pts=0
  ·rw [bM h,h]
   have hv:=checkM_zero.1 h
   have:=hv.most
   simp only [bne_self_eq_false,bK,LQ hv,lB]
   cases hp:c.Pts with
   |nil=>have:=hv.two;rw [hp]at this;simp at this
   |cons p r=>
    have e:=FH r p 0 0
    rw [TO _ _ (by
     have:=congrArg List.length e
     rw [lS,Ho]at this
     rw [this];rw [hp]at hl;simp at hl ⊢;omega)]
    rw [e];rfl
  ·rw [bN h,show (Ay c.Pts !=0)=true from bne_iff_ne.2 h];rfl
theorem FI (c:Curve)(hl:c.Pts.length≤1000000)(hok:c.Pts.all Kj=true): ∀(r:List Spot) (p:Spot) (i:Nat) (out:List Int) (last:Option CurveVector),c.Pts.drop i=p::r→Good last (p::r)→out.length+r.length≤1000000→
    loop (Ct c) (out,(i:Int))=some (out++Z9 (p::r)):=by
  intro r
  induction r with
  |nil=>
   intro p i out last hi _ _
   have hlt:=M9 hi
   have:=O5 (K0 hi)
   refine D2 ?_
   unfold Ct
   dsimp only
   rw [F8 (n:=(i:Int)+1) (by omega)]
   simp only [show ¬(i:Int)+1< (c.Pts.length:Int) by omega,decide_false,bK,Z9,lP]
  |cons q r ih=>
   intro p i out last hi hg ho
   have hlt:=M9 hi
   have hi1:=K0 hi
   have hlt1:=M9 hi1
   have hp:Kj p=true:=l6.1 hok p (List.mem_of_mem_drop (i:=i) (by rw [hi];simp))
   have hq:Kj q=true:=l6.1 hok q (List.mem_of_mem_drop (i:=i) (by rw [hi];simp))
   have hv:=Qe hp hq
   have hg1:C3 c.Pts ((i:Int)+1)=some q:=by have:=X4 hi1;simpa using this
   obtain ⟨l,hl1,hl2,hl3⟩:=fW hv
   cases hg with
   |cons _ _ _ _ h1 h2 h3 h4 hg=>
    have hll:=hl3 h1
    subst hll
    simp only [lL]at ho
    have hstep:Ct c (out,(i:Int))=some (.go (out++ [rt (M7 (N6 p q) (N6 p q))],((i+1:Nat):Int))):=by
      unfold Ct
      dsimp only
      rw [F8 (n:=(i:Int)+1) (by omega)]
      simp only [show (i:Int)+1< (c.Pts.length:Int) by omega,decide_true,bJ,X4 hi,hg1,lB,Ol hp hq,Ww hv hv,hl1]
      rw [Ee (by simp;omega)]
      rfl
    rw [J9 hstep,ih q (i+1) _ _ hi1 hg (by simp;omega),Sj]
    simp
theorem Rh (c:Curve)(hl:c.Pts.length≤1000000):Dd c=some (if Ay c.Pts=0 then Z9 c.Pts else []):=by
  unfold Dd
  rw [AD c hl,lB]
  by_cases h:Ay c.Pts=0
  ·rw [bM h,h]
   have hv:=checkM_zero.1 h
   simp only [bne_self_eq_false,bK]
   cases hp:c.Pts with
   |nil=>have:=hv.two;rw [hp]at this;simp at this
   |cons p r=>
    have:=FI c hl hv.ok r p 0 [] none (by rw [hp];rfl) (by rw [← hp];exact hv.good) (by rw [hp]at hl;simp at hl ⊢;omega)
    rw [show ((0:Nat):Int)=0 from rfl]at this
    rw [this];rfl
  ·rw [bN h,show (Ay c.Pts !=0)=true from bne_iff_ne.2 h];rfl
/-- A sum, as the programs take it. -/
def Wy:Int→List Int→Int
  |s,[]=>s
  |s,a::l=>Wy (D8 (s+a)) l
theorem FJ (l:List Int)(hl:l.length≤1000000): ∀(r:List Int) (i:Nat) (s:Int),l.drop i=r→loop (An l) (s,(i:Int))=some (Wy s r):=by
  intro r
  induction r with
  |nil=>
   intro i s hi
   have:=O5 hi
   refine D2 ?_
   unfold An
   simp only [show ¬(i:Int)<l.length by omega,decide_false,bK,Wy]
  |cons a r ih=>
   intro i s hi
   have hlt:=M9 hi
   have hstep:An l (s,(i:Int))=some (.go (D8 (s+a),((i+1:Nat):Int))):=by
     unfold An
     simp only [show (i:Int)<l.length by omega,decide_true,bJ,X4 hi,lB]
     rw [F8 (n:=(i:Int)+1) (by omega)];rfl
   rw [J9 hstep,ih (i+1) _ (K0 hi),Wy]
theorem FK (l:List Int)(hl:l.length≤1000000): ∀(r:List Int) (i:Nat) (s:Int),l.drop i=r→loop (As l) (s,(i:Int))=some (Wy s r):=by
  intro r
  induction r with
  |nil=>
   intro i s hi
   have:=O5 hi
   refine D2 ?_
   unfold As
   simp only [show ¬(i:Int)<l.length by omega,decide_false,bK,Wy]
  |cons a r ih=>
   intro i s hi
   have hlt:=M9 hi
   have hstep:As l (s,(i:Int))=some (.go (D8 (s+a),((i+1:Nat):Int))):=by
     unfold As
     simp only [show (i:Int)<l.length by omega,decide_true,bJ,X4 hi,lB]
     rw [F8 (n:=(i:Int)+1) (by omega)];rfl
   rw [J9 hstep,ih (i+1) _ (K0 hi),Wy]
noncomputable def Eg (c:Curve):List Int:=if Ay c.Pts=0 then Z9 c.Pts else []
theorem kL: ∀l:List Spot,(Z9 l).length≤l.length
  | []=>by simp [Z9]
  |p::r=>by rw [Ho];simp
theorem LR (c:Curve):(Eg c).length≤c.Pts.length:=by
  unfold Eg
  split
  ·exact kL _
  ·simp
theorem Xp (c:Curve)(hl:c.Pts.length≤1000000):Cz c=some (Wy 0 (Eg c)):=by
  unfold Cz
  rw [IV c hl,lB]
  have:=LR c
  have h:=FJ (Eg c) (by omega) (Eg c) 0 0 (by simp)
  rw [show ((0:Nat):Int)=0 from rfl]at h
  show (loop (An (Eg c)) (0,0)).bind _=_
  rw [h];rfl
theorem Xq (c:Curve)(hl:c.Pts.length≤1000000):De c=some (Wy 0 (Eg c)):=by
  unfold De
  rw [Rh c hl,lB]
  have:=LR c
  have h:=FK (Eg c) (by omega) (Eg c) 0 0 (by simp)
  rw [show ((0:Nat):Int)=0 from rfl]at h
  show (loop (As (Eg c)) (0,0)).bind _=_
  rw [h];rfl
/-- A quarter turn, so many times. -/
def aG:Nat→CurveVector→CurveVector
  |0,v=>v
  |n+1,v=>aG n ⟨-v.y,v.x⟩
theorem QY: ∀(n:Nat) (v w:CurveVector),M7 (aG n v) (aG n w)=M7 v w
  |0,_,_=>rfl
  |n+1,v,w=>by rw [aG,aG,QY n];unfold M7;grind
/-- A piece's vector, made of numbers: in one quadrant. -/
def oM (n:Nat)(v:CurveVector):Prop:= ∃x y L:Int,v=aG n ⟨x,y⟩∧0<x∧0≤y∧x*x+y*y=L*L∧1000≤L∧L≤3029∧x≤L∧y≤L
inductive Ch (Q:CurveVector→Prop):List Spot→Prop
  |one (p:Spot):Ch Q [p]
  |cons (p q:Spot) (r:List Spot) (h:Q (N6 p q)) (hr:Ch Q (q::r)):Ch Q (p::q::r)
theorem LS {n:Nat}: ∀(r:List Spot) (p:Spot) (last:Option CurveVector),Ch (oM n) (p::r)→(∀u,last=some u→oM n u)→Good last (p::r)
  | [],p,last,_,_=> .one _ _
  |q::r,p,last,hc,hl=>by
   cases hc with
   |cons _ _ _ h1 h2=>
    have hq:=h1
    obtain ⟨x,y,L,hv,hx,hy,hsq,hL1,hL2,hxL,hyL⟩:=h1
    have hd:M7 (N6 p q) (N6 p q)=L*L:=by rw [hv,QY];unfold M7;exact hsq
    have hrt:rt (M7 (N6 p q) (N6 p q))=L:=by rw [hd];exact fV (by omega) (by omega)
    refine .cons _ _ _ _ (by rw [hrt,hd]) (by rw [hrt];exact hL1) (by rw [hrt];omega) (fun u hu=> ?_) (LS r q _ h2 (fun u hu=>by cases hu;exact hq))
    obtain ⟨x',y',L',hv',hx',hy',_⟩:=hl u hu
    rw [hv,hv',QY]
    unfold M7
    have:=Int.mul_pos hx' hx
    have:=wK hy' hy
    dsimp only
    omega
/-- What the curves made of numbers are like. -/
structure Made (l:List Spot):Prop where
  two:2≤l.length
  six:l.length≤6
  ch: ∃n,Ch (oM n) l
  bd: ∀p∈l, -50000≤p.X∧p.X≤50000∧ -50000≤p.Y∧p.Y≤50000
theorem Made.valid {l:List Spot}(h:Made l):Valid l:=by
  obtain ⟨n,hc⟩:=h.ch
  have:=h.two;have:=h.six
  refine ⟨h.two,by omega,l6.2 fun p hp=>okS_iff.2 (by have:=h.bd p hp;omega),?_⟩
  match l,h,hc with
  |p::r,_,hc=>exact LS r p none hc (fun u hu=>by cases hu)
  | [],h,_=>exact absurd h.two (by simp)
noncomputable def W0 (p q:Spot):Int:=rt (M7 (N6 p q) (N6 p q))
theorem Fz (p q:Spot)(r:List Spot):Z9 (p::q::r)=W0 p q::Z9 (q::r):=Sj p q r
theorem Vd (i:Nat)(s:Int)(p q:Spot)(r:List Spot):Mo i s (p::q::r)=((i:Int),⟨p,N6 p q,W0 p q,s⟩)::Mo (i+1) (D8 (s+W0 p q)) (q::r):=Wx i s p q r
theorem Good.inv {last:Option CurveVector}{p q:Spot}{r:List Spot}(h:Good last (p::q::r)):W0 p q*W0 p q=M7 (N6 p q) (N6 p q)∧1000≤W0 p q∧W0 p q≤1048576∧(∀u,last=some u→0<M7 u (N6 p q))∧Good (some (N6 p q)) (q::r):=by
  cases h with|cons _ _ _ _ h1 h2 h3 h4 h=>exact ⟨h1,h2,h3,h4,h⟩
/-- The piece in which an offset lies. -/
noncomputable def Cx:Nat→Int→Spot→Spot→List Spot→Int→Nat×CurvePiece
  |i,st,p,q,[],_=>(i,⟨p,N6 p q,W0 p q,st⟩)
  |i,st,p,q,q'::r,s=>if st+W0 p q≤s then Cx (i+1) (st+W0 p q) q q' r s else (i,⟨p,N6 p q,W0 p q,st⟩)
theorem aH (s:Int): ∀(r:List Spot) (p:Spot) (i:Nat) (st:Int) (x:Int×CurvePiece) (last:Option CurveVector),Good last (p::r)→0<i→0≤st→s<st→st+1048576*r.length≤1000000000→
    loopL (Y0 s) (fun x=>(x.1,x.2)) (Mo i st (p::r)) x=some x:=by
  intro r
  induction r with
  |nil=>intro p i st x last _ _ _ _ _;rfl
  |cons q r ih=>
   intro p i st x last hg hi h0 hs hb
   obtain ⟨h1,h2,h3,h4,hg⟩:=hg.inv
   ·skip
    simp only [lL]at hb
    have hst:D8 (st+W0 p q)=st+W0 p q:=F8 (by omega)
    rw [Vd,loopL]
    have:Y0 s x ((i:Int),⟨p,N6 p q,W0 p q,st⟩)=some (.go (x.1,x.2)):=by
      unfold Y0
      dsimp only
      rw [show ((i:Int)==0)=false from beq_eq_false_iff_ne.2 (by omega),show decide (st≤s)=false by simp;omega]
      rfl
    rw [this]
    dsimp only
    rw [hst]
    exact ih q (i+1) _ _ _ hg (by omega) (by omega) (by omega) (by omega)
theorem aI (s:Int)(hs0:0≤s): ∀(r:List Spot) (p q:Spot) (i:Nat) (st:Int) (x:Int×CurvePiece) (last:Option CurveVector),Good last (p::q::r)→0≤st→st≤s→st+1048576* (r.length+1)≤1000000000→
    loopL (Y0 s) (fun x=>(x.1,x.2)) (Mo i st (p::q::r)) x=some (((Cx i st p q r s).1:Int),(Cx i st p q r s).2):=by
  intro r
  induction r with
  |nil=>
   intro p q i st x last hg h0 hs hb
   rw [Vd,loopL]
   have:Y0 s x ((i:Int),⟨p,N6 p q,W0 p q,st⟩)=some (.go ((i:Int),⟨p,N6 p q,W0 p q,st⟩)):=by
     unfold Y0
     dsimp only
     rw [show decide (st≤s)=true by simp [hs]]
     simp
   rw [this]
   rfl
  |cons q' r ih=>
   intro p q i st x last hg h0 hs hb
   obtain ⟨h1,h2,h3,h4,hg⟩:=hg.inv
   ·skip
    simp only [lL]at hb
    have hst:D8 (st+W0 p q)=st+W0 p q:=F8 (by omega)
    rw [Vd,loopL]
    have:Y0 s x ((i:Int),⟨p,N6 p q,W0 p q,st⟩)=some (.go ((i:Int),⟨p,N6 p q,W0 p q,st⟩)):=by
      unfold Y0
      dsimp only
      rw [show decide (st≤s)=true by simp [hs]]
      simp
    rw [this]
    dsimp only
    rw [hst,Cx]
    by_cases hc:st+W0 p q≤s
    ·rw [bM hc]
     exact ih q q' (i+1) _ _ _ hg (by omega) hc (by omega)
    ·rw [bN hc]
     exact aH s (q'::r) q (i+1) _ _ _ hg (by omega) (by omega) (by omega) (by simp only [lL];omega)
/-- The sum of what is left. -/
noncomputable def He:List Int→Int
  | []=>0
  |a::l=>a+He l
theorem HR: ∀(a b:List Int),He (a++b)=He a+He b
  | [],b=>by simp [He]
  |x::a,b=>by rw [lV,He,He,HR a b];omega
theorem GO: ∀(i:Nat) (l:List Spot),Z9 (l.drop i)=(Z9 l).drop i
  |0,_=>rfl
  |_+1,[]=>by simp [Z9]
  |_+1,[_]=>by simp [Z9]
  |i+1,p::q::r=>by rw [Fz,List.drop_succ_cons,List.drop_succ_cons];exact GO i (q::r)
theorem aJ {L:List Int}{i:Nat}{a:Int}{r:List Int}(h:L.drop i=a::r):He (L.take (i+1))=He (L.take i)+a:=by
  have hlt:=M9 h
  have:L[i]=a:=by
    have:=congrArg (fun z=>z[0]?) h
    simp at this
    rw [lH hlt]at this
    exact lD this
  rw [List.take_succ_eq_append_getElem hlt,HR,this]
  simp [He]
/-- What the found piece is. -/
theorem WN (pts:List Spot)(s:Int): ∀(r:List Spot) (p q:Spot) (i:Nat) (st:Int) (last:Option CurveVector),Good last (p::q::r)→pts.drop i=p::q::r→0≤st→st≤s→st=He ((Z9 pts).take i)→
    ∃p' q' r',(Cx i st p q r s).2.start=He ((Z9 pts).take (Cx i st p q r s).1)∧(pts.drop (Cx i st p q r s).1=p'::q'::r')∧(Cx i st p q r s).2.p=p'∧(Cx i st p q r s).2.v=N6 p' q'∧(Cx i st p q r s).2.l=W0 p' q'∧st≤(Cx i st p q r s).2.start∧(Cx i st p q r s).2.start≤s∧1000≤W0 p' q'∧W0 p' q'≤1048576∧
     W0 p' q'*W0 p' q'=M7 (N6 p' q') (N6 p' q')∧(r'≠ []→s< (Cx i st p q r s).2.start+W0 p' q'):=by
  intro r
  induction r with
  |nil=>
   intro p q i st last hg hi h0 hs hst
   obtain ⟨h1,h2,h3,h4,hg⟩:=hg.inv
   exact ⟨p,q,[],hst,hi,rfl,rfl,rfl,Int.le_refl _,hs,h2,h3,h1,fun h=>absurd rfl h⟩
  |cons q' r ih=>
   intro p q i st last hg hi h0 hs hst
   obtain ⟨h1,h2,h3,h4,hg⟩:=hg.inv
   ·skip
    have hdl:(Z9 pts).drop i=W0 p q::Z9 (q::q'::r):=by rw [← GO,hi,Fz]
    rw [Cx]
    by_cases hc:st+W0 p q≤s
    ·rw [bM hc]
     obtain ⟨a,b,c,e0,e1,e2,e3,e4,e5,e6⟩:=ih q q' (i+1) (st+W0 p q) _ hg (K0 hi) (by omega) hc (by rw [aJ hdl,hst])
     exact ⟨a,b,c,e0,e1,e2,e3,e4,by omega,e6⟩
    ·rw [bN hc]
     exact ⟨p,q,q'::r,hst,hi,rfl,rfl,rfl,Int.le_refl _,hs,h2,h3,h1,fun _=>by dsimp only;omega⟩
theorem OU: ∀(l:List Int) (s:Int),(∀a∈l,0≤a∧a≤1048576)→0≤s→s+1048576*l.length≤1000000000000→Wy s l=s+He l
  | [],s,_,_,_=>by simp [Wy,He]
  |a::l,s,h,h0,hb=>by
   have ha:=h a (by simp)
   simp only [lL]at hb
   rw [Wy,He,F8 (by omega),OU l (s+a) (fun b hb=>h b (by simp [hb])) (by omega) (by omega)]
   omega
theorem GP: ∀(r:List Spot) (p:Spot) (last:Option CurveVector),Good last (p::r)→∀a∈Z9 (p::r),1000≤a∧a≤1048576
  | [],p,last,_,a,ha=>by simp [Z9]at ha
  |q::r,p,last,hg,a,ha=>by
   obtain ⟨h1,h2,h3,h4,hg⟩:=hg.inv
   ·skip
    rw [Fz,lU]at ha
    rcases ha with rfl|ha
    ·exact ⟨h2,h3⟩
    ·exact GP r q _ hg a ha
theorem AE: ∀(l:List Int),(∀a∈l,0≤a)→0≤He l
  | [],_=>by simp [He]
  |a::l,h=>by have:=h a (by simp);have:=AE l (fun b hb=>h b (by simp [hb]));rw [He];omega
theorem TP (p q:Spot):Z9 [p,q]= [W0 p q]:=rfl
theorem LU (L:List Int)(hL:L.length≤1000)(s:Int): ∀(r:List Spot) (p q:Spot) (i:Nat) (st:Int) (last:Option CurveVector),Good last (p::q::r)→L.drop i=Z9 (p::q::r)→0≤st→st≤s→s≤1000000000000→
    s≤st+He (Z9 (p::q::r))→∃y,loop (Gy L) (s - st,(i:Int))=some y∧
     Sum.elim (fun y1=>some (D8 ((L.length:Int) - 1),y1)) some y=some (((Cx i st p q r s).1:Int),s - (Cx i st p q r s).2.start):=by
  intro r
  induction r with
  |nil=>
   intro p q i st last hg hd h0 hs hb hsum
   have hlen:L.length=i+1:=by
     have:=congrArg List.length hd
     rw [lX,TP]at this
     simp at this;omega
   refine ⟨.inl (s - st),D2 ?_,?_⟩
   ·unfold Gy
    dsimp only
    rw [F8 (n:=(L.length:Int) - 1) (by omega)]
    simp only [show ¬(i:Int)< (L.length:Int) - 1 by omega,decide_false,bK]
   ·show some (D8 ((L.length:Int) - 1),s - st)=some ((i:Int),s - st)
    rw [F8 (by omega),hlen]
    congr 2
    omega
  |cons q' r ih=>
   intro p q i st last hg hd h0 hs hb hsum
   obtain ⟨h1,h2,h3,h4,hg⟩:=hg.inv
   ·skip
    have hd1:L.drop i=W0 p q::Z9 (q::q'::r):=by rw [hd,Fz]
    have hd2:=K0 hd1
    have hlt:=M9 (show L.drop (i+1)=W0 q q'::Z9 (q'::r) by rw [hd2,Fz])
    have hstep:Gy L (s - st,(i:Int))=if s - st<W0 p q then some (.out (.inr ((i:Int),s - st)))else some (.go (s - (st+W0 p q),((i+1:Nat):Int))):=by
      unfold Gy
      dsimp only
      rw [F8 (n:=(L.length:Int) - 1) (by omega)]
      simp only [show (i:Int)< (L.length:Int) - 1 by omega,decide_true,bJ,X4 hd1,lB]
      by_cases hc:s - st<W0 p q
      ·simp only [hc,decide_true,bJ,if_true]
      ·simp only [hc,decide_false,bK,if_false]
       rw [F8 (by omega),F8 (by omega)]
       congr 3
       omega
    rw [Fz,He]at hsum
    rw [Cx]
    by_cases hc:st+W0 p q≤s
    ·rw [bN (by omega)]at hstep
     rw [bM hc,J9 hstep]
     exact ih q q' (i+1) (st+W0 p q) _ hg hd2 (by omega) hc hb (by omega)
    ·rw [bM (by omega)]at hstep
     rw [bN hc,D2 hstep]
     exact ⟨_,rfl,rfl⟩
theorem Wz {l:List Spot}(h:Valid l): ∃p q r,l=p::q::r:=by
  match l,h with
  |p::q::r,_=>exact ⟨p,q,r,rfl⟩
  | [p],h=>exact absurd h.two (by simp)
  | [],h=>exact absurd h.two (by simp)
/-- Where an offset lies in a valid curve. -/
structure At (l:List Spot)(s:Int) where
  i:Nat
  p:Spot
  q:Spot
  r:List Spot
  st:Int
  hd:l.drop i=p::q::r
  h0:0≤st
  hs:st≤s
  l1:1000≤W0 p q
  l2:W0 p q≤1048576
  sq:W0 p q*W0 p q=M7 (N6 p q) (N6 p q)
  nx:r≠ []→s<st+W0 p q
  pre:st=He ((Z9 l).take i)
theorem TQ {l:List Spot}(h:Valid l):0≤He (Z9 l)∧He (Z9 l)≤16777216∧Wy 0 (Z9 l)=He (Z9 l):=by
  obtain ⟨p,q,r,rfl⟩:=Wz h
  have hg:=GP (q::r) p none h.good
  have hm:=h.most
  have hlen:(Z9 (p::q::r)).length≤15:=by rw [Ho];simp at hm ⊢;omega
  have hs:=AE (Z9 (p::q::r)) (fun a ha=>by have:=hg a ha;omega)
  have key: ∀l:List Int,(∀a∈l,a≤1048576)→He l≤1048576*l.length:=by
    intro l
    induction l with
    |nil=>intro _;simp [He]
    |cons a l ih=>intro h;have:=h a (by simp);have:=ih (fun b hb=>h b (by simp [hb]));rw [He,lL];omega
  have:=key (Z9 (p::q::r)) (fun a ha=>(hg a ha).2)
  refine ⟨hs,by omega,?_⟩
  rw [OU _ _ (fun a ha=>by have:=hg a ha;omega) (by omega) (by omega)]
  omega
theorem kM (c:Curve)(h:Valid c.Pts)(s:Int)(hs:0≤s∧s≤9223372036854775807): ∃A:At c.Pts s,Pp c s=some ((A.i:Int),⟨A.p,N6 A.p A.q,W0 A.p A.q,A.st⟩,min (s - A.st) (W0 A.p A.q))∧
    (∀s',s'=min s (He (Z9 c.Pts))→thenS (loop (Gy (Z9 c.Pts)) (s',0)) (fun y1=>some (D8 (((Z9 c.Pts).length:Int) - 1),y1)) (fun r=>some r)=some ((A.i:Int),min (s - A.st) (W0 A.p A.q))):=by
  obtain ⟨p,q,r,hp⟩:=Wz h
  have hg:Good none (p::q::r):=by rw [← hp];exact h.good
  have hm:=h.most
  rw [hp]at hm
  simp only [lL]at hm
  obtain ⟨p',q',r',epre,e1,e2,e3,e4,e5,e6,e7,e8,e9,e10⟩:=WN c.Pts s r p q 0 0 none hg (by rw [hp];rfl) (by omega) hs.1 rfl
  have hfm:(Cx 0 0 p q r s).2=⟨p',N6 p' q',W0 p' q',(Cx 0 0 p q r s).2.start⟩:=by
    generalize (Cx 0 0 p q r s).2=z at*
    cases z
    simp only at e2 e3 e4
    rw [e2,e3,e4]
  refine ⟨⟨(Cx 0 0 p q r s).1,p',q',r',(Cx 0 0 p q r s).2.start,e1,e5,e6,e7,e8,e9,e10,epre⟩,?_,?_⟩
  ·unfold Pp
   have e0:Py c.Pts=some (Mo 0 0 (p::q::r)):=by rw [LQ h,hp]
   rw [e0,lB,aI s hs.1 r p q 0 0 _ none hg (by omega) hs.1 (by omega),lB]
   dsimp only
   rw [e4,F8 (by omega),Nv,Nu,Option.some.injEq,Prod.mk.injEq,Prod.mk.injEq]
   exact ⟨rfl,hfm,by omega⟩
  ·rintro s' rfl
   have ht:=TQ h
   rw [hp]at ht
   have hsame:Cx 0 0 p q r (min s (He (Z9 c.Pts)))=Cx 0 0 p q r s∧(min s (He (Z9 c.Pts))) - (Cx 0 0 p q r s).2.start=min (s - (Cx 0 0 p q r s).2.start) (W0 p' q'):=by
     have key: ∀(r:List Spot) (p q:Spot) (i:Nat) (st:Int) (last:Option CurveVector),Good last (p::q::r)→st≤s→Cx i st p q r (min s (st+He (Z9 (p::q::r))))=Cx i st p q r s∧
      (min s (st+He (Z9 (p::q::r)))) - (Cx i st p q r s).2.start=min (s - (Cx i st p q r s).2.start) (Cx i st p q r s).2.l:=by
       intro r
       induction r with
       |nil=>
        intro p q i st last hg hst
        refine ⟨rfl,?_⟩
        have:He (Z9 [p,q])=W0 p q:=by rw [TP];simp [He]
        rw [this]
        show min s (st+W0 p q) - st=min (s - st) (W0 p q)
        omega
       |cons q' r ih=>
        intro p q i st last hg hst
        obtain ⟨h1,h2,h3,h4,hg'⟩:=hg.inv
        have hnn:=GP (q'::r) q _ hg'
        have hpos:1000≤He (Z9 (q::q'::r)):=by
          have h5:=(hg'.inv).2.1
          have:=AE (Z9 (q'::r)) (fun a ha=>by have:=hnn a (by rw [Fz];simp [ha]);omega)
          rw [Fz,He];omega
        rw [Fz,He,Cx,Cx]
        by_cases hc:st+W0 p q≤s
        ·rw [bM hc,bM (by omega),show st+ (W0 p q+He (Z9 (q::q'::r)))=(st+W0 p q)+He (Z9 (q::q'::r)) by omega]
         exact ih q q' (i+1) (st+W0 p q) _ hg' hc
        ·rw [bN hc,bN (by omega)]
         refine ⟨rfl,?_⟩
         dsimp only
         omega
     have:=key r p q 0 0 none hg hs.1
     rw [Int.zero_add,← hp]at this
     refine ⟨this.1,?_⟩
     rw [this.2,hfm]
   have hlen:(Z9 c.Pts).length≤1000:=by rw [hp,Ho];simp;omega
   obtain ⟨y,hy,hy2⟩:=LU (Z9 c.Pts) hlen (min s (He (Z9 c.Pts))) r p q 0 0 none hg (by rw [hp];rfl) (by omega) (by rw [hp];omega) (by rw [hp];omega) (by rw [hp];omega)
   rw [Int.sub_zero]at hy
   rw [show ((0:Nat):Int)=0 from rfl]at hy
   rw [hy]
   rw [hsame.1,hsame.2]at hy2
   cases y<;>exact hy2
theorem WO (a b:Int):Fm a b=AB a b:=rfl
theorem TR {a b:Int}(h:b≠0): ∃q,Fm a b=some q:=by
  unfold Fm II Su
  rw [bN h,bN h]
  simp only [lB]
  cases decide (a.tmod b<0)<;>exact ⟨_,rfl⟩
theorem LV (c:Curve)(hl:c.Pts.length≤1000000)(s:Int)(hs: -9223372036854775808≤s∧s≤9223372036854775807): ∃x,AA c s=some x∧
    (∀_:Valid c.Pts,∃A:At c.Pts (max 0 s),Pp c (Ov true 0 s)=some ((A.i:Int),⟨A.p,N6 A.p A.q,W0 A.p A.q,A.st⟩,min (max 0 s - A.st) (W0 A.p A.q))∧x=((A.i:Int),min (max 0 s - A.st) (W0 A.p A.q))):=by
  unfold AA
  rw [show Dd c=some (Eg c) from Rh c hl,Xq c hl]
  simp only [lB]
  by_cases hv:Ay c.Pts=0
  ·have V:=checkM_zero.1 hv
   obtain ⟨A,h1,h2⟩:=kM c V (max 0 s) (by omega)
   have ht:=TQ V
   have hpl:Eg c=Z9 c.Pts:=bM hv
   obtain ⟨p,q,r,hp⟩:=Wz V
   have hne:(((Z9 c.Pts).length:Int)==0)=false:=by rw [hp,Ho];exact beq_eq_false_iff_ne.2 (by simp;omega)
   rw [hpl]
   simp only [bK,hne]
   refine ⟨_,?_,fun _=>⟨A,by rw [Nu];exact h1,rfl⟩⟩
   rw [ht.2.2,Nu,Nv]
   exact h2 _ (by omega)
  ·have hpl:Eg c= []:=bN hv
   rw [hpl]
   exact ⟨(0,0),rfl,fun h=>absurd (checkM_zero.2 h) hv⟩
theorem oN {l:List Spot}{s:Int}(A:At l s)(hl:l.length≤1000000):C3 l (A.i:Int)=some A.p∧C3 l (D8 ((A.i:Int)+1))=some A.q∧C3 (Z9 l) (A.i:Int)=some (W0 A.p A.q):=by
  have h1:=M9 A.hd
  have h2:=X4 (K0 A.hd)
  refine ⟨X4 A.hd,by rw [F8 (by omega)];simpa using h2,?_⟩
  refine X4 (r:=Z9 (A.q::A.r)) ?_
  rw [← GO,A.hd,Fz]
theorem fX {l:List Spot}{s:Int}(A:At l s)(V:Valid l):Kj A.p=true∧Kj A.q=true:=
  ⟨l6.1 V.ok _ (List.mem_of_mem_drop (i:=A.i) (by rw [A.hd];simp)),l6.1 V.ok _ (List.mem_of_mem_drop (i:=A.i) (by rw [A.hd];simp))⟩
theorem kN (c:Curve)(hl:c.Pts.length≤1000000)(s:Int)(hs: -9223372036854775808≤s∧s≤9223372036854775807): ∃x,Kh c s=some x∧FF c s=some x:=by
  obtain ⟨x,hy,hA⟩:=LV c hl s hs
  unfold Kh FF
  rw [Om c hl,show Dd c=some (Eg c) from Rh c hl,hy]
  simp only [lB]
  by_cases hv:Ay c.Pts=0
  ·have V:=checkM_zero.1 hv
   obtain ⟨A,h1,rfl⟩:=hA V
   obtain ⟨p,q,r,hp⟩:=Wz V
   have hne:(((Z9 c.Pts).length:Int)==0)=false:=by rw [hp,Ho];exact beq_eq_false_iff_ne.2 (by simp;omega)
   have hpl:Eg c=Z9 c.Pts:=bM hv
   obtain ⟨g1,g2,g3⟩:=oN A hl
   obtain ⟨o1,o2⟩:=fX A V
   have hne0:W0 A.p A.q≠0:=by have:=A.l1;omega
   obtain ⟨q1,hq1⟩:=TR (a:=D8 ((N6 A.p A.q).x*min (max 0 s - A.st) (W0 A.p A.q))) hne0
   obtain ⟨q2,hq2⟩:=TR (a:=D8 ((N6 A.p A.q).y*min (max 0 s - A.st) (W0 A.p A.q))) hne0
   rw [hv,h1,hpl]
   simp only [bne_self_eq_false,bK,lB,hne,g1,g2,g3,Ol o1 o2,vs,← WO,hq1,hq2]
   exact ⟨_,rfl,rfl⟩
  ·have hpl:Eg c= []:=bN hv
   rw [hpl,show (Ay c.Pts !=0)=true from bne_iff_ne.2 hv]
   exact ⟨⟨0,0⟩,rfl,rfl⟩
theorem AF {a b:Int}(hb:0<b)(ha:Nt a):Fm a b=some (a / b):=by
  unfold Fm II Su
  rw [bN (by omega),bN (by omega)]
  simp only [lB]
  have hle:a.natAbs / b.natAbs≤a.natAbs:=Nat.div_le_self _ _
  have h1:=Int.tmod_lt_of_pos a hb
  have h3:=Int.tdiv_mul_add_tmod a b
  have h4:=Int.ediv_mul_add_emod a b
  have h5:=wN a (show b≠0 by omega)
  have h6:=wO a hb
  have hq:= @Int.tdiv_eq_ediv a b
  have hm:= @Int.tmod_eq_emod a b
  unfold Nt at ha
  have hab: -9223372036854775808≤a / b∧a / b≤9223372036854775807:=by
    constructor
    ·have:=Int.le_ediv_of_mul_le hb (show -9223372036854775808*b≤a by
       have:=wJ (show (1:Int)≤b by omega) (show (0:Int)≤9223372036854775808 by decide);omega)
     exact this
    ·have:=Int.ediv_le_of_le_mul hb (show a≤9223372036854775807*b by
       have:=wJ (show (1:Int)≤b by omega) (show (0:Int)≤9223372036854775807 by decide);omega)
     exact this
  by_cases hc:0≤a∨b ∣ a
  ·rw [bM hc,Int.add_zero]at hq
   rw [bM hc,show ((0:Nat):Int)=0 from rfl,Int.sub_zero]at hm
   rw [hq,hm,show decide (a % b<0)=false from bG (by omega),show IntKind.i64.wrap (a / b)=a / b from F8 hab];rfl
  ·rw [bN hc,Int.sign_eq_one_of_pos hb]at hq
   rw [bN hc,Int.natAbs_of_nonneg (by omega)]at hm
   have hneg:a / b<0:=by
     rcases Int.lt_or_le (a / b) 0 with q|q
     ·exact q
     ·have:=wK q (show 0≤b by omega)
      exact absurd (.inl (by omega)) hc
   rw [hq,hm,show decide (a % b - b<0)=true from bF (by omega),show IntKind.i64.wrap (a / b+1)=a / b+1 from F8 (by omega),F8 (by omega)]
   simp only [bJ]
   congr 1
   omega
/-- The place of an offset, by the piece in which it lies. -/
theorem TS {c:Curve}(V:Valid c.Pts)(hl:c.Pts.length≤1000000){s:Int}(hs:Nt s): ∃A:At c.Pts (max 0 s),Kh c s=some ⟨A.p.X+ (N6 A.p A.q).x*min (max 0 s - A.st) (W0 A.p A.q) / W0 A.p A.q,A.p.Y+ (N6 A.p A.q).y*min (max 0 s - A.st) (W0 A.p A.q) / W0 A.p A.q⟩:=by
  obtain ⟨x,hy,hA⟩:=LV c hl s hs
  obtain ⟨A,h1,rfl⟩:=hA V
  refine ⟨A,?_⟩
  unfold Kh
  rw [Om c hl,checkM_zero.2 V]
  simp only [lB,bne_self_eq_false,bK,h1]
  obtain ⟨o1,o2⟩:=fX A V
  have hv:=Qe o1 o2
  have a1:=A.l1
  have a2:=A.l2
  have a3:=A.hs
  have ho:=okS_iff.1 o1
  have ho2:=okS_iff.1 o2
  generalize ht:min (max 0 s - A.st) (W0 A.p A.q)=t
  have ht0:0≤t∧t≤1048576∧t≤W0 A.p A.q:=by omega
  obtain ⟨v1,v2,v3,v4⟩:=hv
  have m1:=CV ⟨v1,v2⟩ (show -1048576≤t∧t≤1048576 by omega)
  have m2:=CV ⟨v3,v4⟩ (show -1048576≤t∧t≤1048576 by omega)
  have hdiv: ∀z, -33554432≤z→z≤33554432→ -33554432≤z*t / W0 A.p A.q∧z*t / W0 A.p A.q≤33554432:=by
    intro z z1 z2
    constructor
    ·refine Int.le_ediv_of_mul_le (by omega) ?_
     have e1:=wJ ht0.2.2 (show (0:Int)≤33554432 by decide)
     have e2:=Int.mul_le_mul_of_nonneg_right z1 ht0.1
     omega
    ·refine Int.ediv_le_of_le_mul (by omega) ?_
     have e1:=wJ ht0.2.2 (show (0:Int)≤33554432 by decide)
     have e2:=Int.mul_le_mul_of_nonneg_right z2 ht0.1
     omega
  have d1:=hdiv _ v1 v2
  have d2:=hdiv _ v3 v4
  rw [F8 (n:=(N6 A.p A.q).x*t) (by omega),F8 (n:=(N6 A.p A.q).y*t) (by omega),AF (by omega) (by unfold Nt;omega),lB,AF (by omega) (by unfold Nt;omega),lB,
   F8 (n:=A.p.X+_) (by omega),F8 (n:=A.p.Y+_) (by omega)]
def Xa (v w:CurveVector):Int:=v.x*w.y - v.y*w.x
def pB (x:Int):Int:=if x>0 then 1 else if x<0 then -1 else 0
theorem aK (x:Int):(0<x∧pB x=1)∨(x<0∧pB x= -1)∨(x=0∧pB x=0):=by
  unfold pB
  split
  ·omega
  ·split<;>omega
theorem fY {v w:CurveVector}(hv:UR v)(hw:UR w): -2251799813685248≤Xa v w∧Xa v w≤2251799813685248∧(-1125899906842624≤v.x*w.y∧v.x*w.y≤1125899906842624)∧ -1125899906842624≤v.y*w.x∧v.y*w.x≤1125899906842624:=by
  obtain ⟨v1,v2,v3,v4⟩:=hv
  obtain ⟨w1,w2,w3,w4⟩:=hw
  have m1:=CV ⟨v1,v2⟩ ⟨w3,w4⟩
  have m2:=CV ⟨v3,v4⟩ ⟨w1,w2⟩
  unfold Xa
  omega
theorem LW {v w:CurveVector}(hv:UR v)(hw:UR w):Ea v w=some (Xa v w):=by
  have:=fY hv hw
  unfold Xa at this
  unfold Ea Xa
  rw [F8 (n:=v.x*w.y) (by omega),F8 (n:=v.y*w.x) (by omega),F8 (by omega)]
def CF (p q r:Spot):Int:=cond (Kj p&&Kj q&&Kj r) (pB (Xa (N6 p q) (N6 p r))) 0
theorem Xb (p q r:Spot):CF p q r=1∨CF p q r= -1∨CF p q r=0:=by
  unfold CF
  have:=aK (Xa (N6 p q) (N6 p r))
  cases Kj p&&Kj q&&Kj r
  ·simp
  ·simp only [bJ];omega
theorem NQ (p q r:Spot):Ki p q r=some (CF p q r):=by
  unfold Ki CF
  rw [Me [p,q,r] (by simp)]
  simp only [List.all_cons,List.all_nil,bP,lB,Bool.and_assoc]
  cases hp:Kj p
  ·rfl
  cases hq:Kj q
  ·rfl
  cases hr:Kj r
  ·rfl
  simp only [Bool.and_self,bT,bK,bJ,Mf hp hq,Mf hp hr,lB,LW (Qe hp hq) (Qe hp hr)]
  unfold Wv pB
  generalize Xa (N6 p q) (N6 p r)=x
  rw [JC,JC]
  split
  ·rfl
  ·split<;>rfl
def WP (p q:Spot):Int:=cond (Kj p&&Kj q) (M7 (N6 p q) (N6 p q)) 0
theorem LX (p q:Spot):Qw p q=some (WP p q):=by
  unfold Qw WP
  rw [Me [p,q] (by simp)]
  simp only [List.all_cons,List.all_nil,bP,lB]
  cases hp:Kj p
  ·rfl
  cases hq:Kj q
  ·rfl
  simp only [Bool.and_self,bT,bK,bJ,Mf hp hq,lB,Rw (Qe hp hq) (Qe hp hq)]
def aL (p q r:Spot):Bool:=(((decide (min p.X q.X≤r.X))&& (decide (r.X≤max p.X q.X)))&& (decide (min p.Y q.Y≤r.Y)))&& (decide (r.Y≤max p.Y q.Y))
theorem GQ (p q r:Spot):Dk p q r=some (aL p q r):=by unfold Dk aL;simp only [Nv,Nu]
def blk (s1 s2 s3 s4:Int)(b1 b2 b3 b4:Bool):Bool:=(decide (s1*s2<0)&&decide (s3*s4<0))||(s1==0&&b1)||(s2==0&&b2)||(s3==0&&b3)||(s4==0&&b4)
def FL (p q r s:Spot):Bool:=(Kj p&&Kj q&&Kj r&&Kj s)&&blk (CF p q r) (CF p q s) (CF r s p) (CF r s q) (aL p q r) (aL p q s) (aL r s p) (aL r s q)
theorem TT {a b:Int}(ha:a=1∨a= -1∨a=0)(hb:b=1∨b= -1∨b=0):D8 (a*b)=a*b:=by
  rcases ha with rfl|rfl|rfl<;>rcases hb with rfl|rfl|rfl<;>exact F8 (by omega)
theorem fZ (c z1 z2 z3 z4 b1 b2 b3 b4:Bool):cond c (some true) ((cond z1 (some b1) (some default)).bind fun v6=>((cond ((!(z1&&v6))&&z2) (some b2) (some default))).bind fun v7=>((cond ((!((z1&&v6)||(z2&&v7)))&&z3) (some b3) (some default))).bind fun v8=>((cond ((!(((z1&&v6)||(z2&&v7))||(z3&&v8)))&&z4) (some b4) (some default))).bind fun v9=>some ((((z1&&v6)||(z2&&v7))||(z3&&v8))||(z4&&v9)))=some (c||(z1&&b1)||(z2&&b2)||(z3&&b3)||(z4&&b4)):=by
  cases c<;>cases z1<;>cases b1<;>cases z2<;>cases b2<;>cases z3<;>cases b3<;>cases z4<;>cases b4<;>rfl
theorem Xr (p q r s:Spot):Ld p q r s=some (FL p q r s):=by
  unfold Ld FL blk
  rw [Me [p,q,r,s] (by simp)]
  simp only [List.all_cons,List.all_nil,bP,lB,NQ,GQ,TT (Xb p q r) (Xb p q s),TT (Xb r s p) (Xb r s q),fZ]
  cases Kj p<;>cases Kj q<;>cases Kj r<;>cases Kj s<;>rfl
def CG (p q:Spot)(n:Int):Bool:=(Kj p&&Kj q)&& (decide (n≥0)&&decide (n≤33554432)&&decide (WP p q≤n*n))
theorem CH (p q:Spot)(n:Int):Pq p q n=some (CG p q n):=by
  unfold Pq CG
  rw [Me [p,q] (by simp)]
  simp only [List.all_cons,List.all_nil,bP,lB,LX]
  cases Kj p&&Kj q
  ·rfl
  by_cases h:n≥0
  case neg=>simp only [h,decide_false];rfl
  by_cases k:n≤33554432
  case neg=>simp only [h,k,decide_false];rfl
  have:=CV (show -33554432≤n∧n≤33554432 by omega) (show -33554432≤n∧n≤33554432 by omega)
  rw [F8 (n:=n*n) (by omega)]
  simp only [h,k,decide_true,Bool.and_self,bJ,lB,bO]
theorem YN {v t l:Int}(hl:0<l)(ht:0≤t∧t≤l):min 0 v≤v*t / l∧v*t / l≤max 0 v:=by
  rcases Int.le_total 0 v with q|q
  ·have h1:=wK q ht.1
   have h2:=wJ ht.2 q
   have h3:=Int.ediv_nonneg h1 (show 0≤l by omega)
   have h4:=Int.ediv_le_of_le_mul hl h2
   omega
  ·have h1:=wK (show 0≤ -v by omega) ht.1
   have h2:=wJ ht.2 (show 0≤ -v by omega)
   rw [Int.neg_mul]at h1 h2
   rw [Int.neg_mul]at h2
   have h3:=Int.le_ediv_of_mul_le hl (show v*l≤v*t by omega)
   have h4:=Int.ediv_le_of_le_mul hl (show v*t≤0*l by omega)
   omega
theorem gA {p q:Spot}(hp:Kj p=true)(hq:Kj q=true){t l:Int}(hl:0<l)(ht:0≤t∧t≤l):Kj ⟨p.X+ (N6 p q).x*t / l,p.Y+ (N6 p q).y*t / l⟩=true:=by
  have h1:=okS_iff.1 hp
  have h2:=okS_iff.1 hq
  have p1:=YN (v:=(N6 p q).x) hl ht
  have p2:=YN (v:=(N6 p q).y) hl ht
  have x1:(N6 p q).x=q.X - p.X:=rfl
  have x2:(N6 p q).y=q.Y - p.Y:=rfl
  rw [okS_iff]
  dsimp only
  omega
/-! ### Loops that look for the first error -/
def J6 {α β:Type}(g:Nat→α→Option β):Nat→List α→Option β
  |_,[]=>none
  |i,a::r=>match g i a with
   |some e=>some e
   |none=>J6 g (i+1) r
def LY {β:Type}:Option β→Sum Unit β
  |some e=> .inr e
  |none=> .inl ()
theorem Aa {α β:Type}(l:List α)(F:Int→Option (Stp Int (Sum Unit β)))(g:Nat→α→Option β)(hF: ∀(i:Nat) a,l[i]? =some a→F (i:Int)=some (match g i a with|some e=> .out (.inr e)|none=> .go ((i+1:Nat):Int)))(h0:F (l.length:Int)=some (.out (.inl ()))):
    loop F 0=some (LY (J6 g 0 l)):=by
  have key: ∀(r:List α) (i:Nat),l.drop i=r→i≤l.length→loop F (i:Int)=some (LY (J6 g i r)):=by
    intro r
    induction r with
    |nil=>
     intro i hi hil
     have:i=l.length:=by have:=List.drop_eq_nil_iff.1 hi;omega
     subst this
     exact D2 h0
    |cons a r ih=>
     intro i hi hil
     have hlt:i<l.length:=by
       rcases Nat.lt_or_ge i l.length with q|q
       ·exact q
       ·rw [List.drop_eq_nil_of_le q]at hi;cases hi
     have ha:l[i]? =some a:=by have:=congrArg (fun z=>z[0]?) hi;simpa using this
     have hr:l.drop (i+1)=r:=by have:=congrArg (fun z=>z.drop 1) hi;simpa using this
     have hs:=hF i a ha
     unfold J6
     cases hg:g i a with
     |some e=>rw [hg]at hs;exact D2 hs
     |none=>rw [hg]at hs;rw [J9 hs];exact ih (i+1) hr (by omega)
  have:=key l 0 rfl (by omega)
  exact this
theorem firstE_none {α β:Type}{g:Nat→α→Option β}: ∀{l:List α} {i:Nat},J6 g i l=none↔∀(j:Nat) a,l[j]? =some a→g (i+j) a=none
  | [],i=>by simp [J6]
  |a::r,i=>by
   unfold J6
   cases h:g i a with
   |some e=>
    constructor
    ·intro h';cases h'
    ·intro h';have:=h' 0 a rfl;rw [Nat.add_zero,h]at this;cases this
   |none=>
    dsimp only
    rw [firstE_none (l:=r)]
    constructor
    ·intro h' j b hj
     cases j with
     |zero=>cases hj;exact h
     |succ j=>have:=h' j b hj;rwa [show i+1+j=i+ (j+1) by omega]at this
    ·intro h' j b hj
     have:=h' (j+1) b hj
     rwa [show i+ (j+1)=i+1+j by omega]at this
/-! ### Numbers -/
def Vg (n a b:Int):Bool:=decide (a≤n)&&decide (n≤b)
theorem Ps (n a b:Int):Bm n a b=some (Vg n a b):=rfl
theorem Ts (n a b:Int):Dc n a b=some (Vg n a b):=rfl
def Gz (kind:Int):Int×Int×Int:=if kind=1 then (2000,30,90)else if kind=2 then (1000,20,60)else if kind=3 then (300,100,300)else (0,0,0)
theorem GR (k:Int):Ev k=some (Gz k):=by
  unfold Ev Gz
  by_cases h:k<0∨k≥4
  ·rw [show ((decide (k<0))||(decide (k≥4)))=true by simpa using h,bJ,bN (by omega),bN (by omega),bN (by omega)]
  ·rw [show ((decide (k<0))||(decide (k≥4)))=false by rw [bW];simpa using h,bK]
   obtain ⟨h1,h2⟩:=not_or.1 h
   rcases (show k=0∨k=1∨k=2∨k=3 by omega)with rfl|rfl|rfl|rfl<;>rfl
theorem Xc (k:Int):Fg k=some (Gz k):=by
  unfold Fg Gz
  by_cases h1:k=1
  ·subst h1;rfl
  ·by_cases h2:k=2
   ·subst h2;rfl
   ·by_cases h3:k=3
    ·subst h3;rfl
    ·rw [bN h1,bN h2,bN h3]
     rw [show (k==1)=false by simpa using h1,show (k==2)=false by simpa using h2,show (k==3)=false by simpa using h3];rfl
theorem RN {n:Int}(h: -9223372036854775808≤n∧n≤9223372036854775807):D8 n=n:=Go.IntWalk.i64_in n h
theorem D0 {α:Type}{l:List α}{i:Nat}{a:α}(h:l[i]? =some a):C3 l (i:Int)=some a:=by
  unfold C3;rw [bM (by omega),wB];exact h
theorem I7 {α:Type}{l:List α}{i:Nat}{a:α}(h:l[i]? =some a):i<l.length:=(lI.1 h).1
theorem JF {α:Type}(c:Bool)(a b:α):cond c (some a) (some b)=some (cond c a b):=by cases c<;>rfl
def Cg (high:Int):Int→List Int→Bool
  |_,[]=>true
  |low,n::r=>decide (low≤n)&&decide (n<high)&&Cg high (n+1) r
theorem GS (l:List Int)(low high:Int)(hl:l.length≤1000000)(hh:high≤1000000000)(h0:0≤low):Bn l low high=some (Cg high low l):=by
  have key: ∀(r:List Int) (i:Nat) (lo:Int),0≤lo→l.drop i=r→i≤l.length→loop (Cn l high) (lo,(i:Int))=some (if Cg high lo r then .inl ()else .inr false):=by
    intro r
    induction r with
    |nil=>
     intro i lo _ hi hil
     have:=O5 hi
     refine D2 ?_
     unfold Cn
     dsimp only
     rw [show decide ((i:Int)< (l.length:Int))=false from bG (by omega)];rfl
    |cons n r ih=>
     intro i lo hlo hi hil
     have hlt:=M9 hi
     have hs:Cn l high (lo,(i:Int))=some (if decide (lo≤n)&&decide (n<high)then .go (n+1,((i+1:Nat):Int))else .out (.inr false)):=by
       unfold Cn
       dsimp only
       rw [show decide ((i:Int)< (l.length:Int))=true from bF (by omega),X4 hi,bJ,lB,RN (n:=(i:Int)+1) (by omega)]
       by_cases q:lo≤n∧n<high
       ·rw [show ((decide (n<lo))||(decide (n≥high)))=false by rw [bW];simp;omega,bK,RN (n:=n+1) (by omega),bM (by simpa using q)];rfl
       ·rw [show ((decide (n<lo))||(decide (n≥high)))=true by simp;omega,bJ,bN (by simpa using q)]
     unfold Cg
     cases q:(decide (lo≤n)&&decide (n<high))
     ·rw [q]at hs;rw [D2 hs];rfl
     ·rw [q]at hs
      simp only [bR,bH]at q
      rw [J9 hs,ih (i+1) (n+1) (by omega) (K0 hi) (by omega)];rfl
  unfold Bn
  have:=key l 0 low h0 rfl (by omega)
  rw [show ((0:Nat):Int)=0 from rfl]at this
  rw [this]
  cases Cg high low l<;>rfl
theorem DJ (l:List Int)(low high:Int)(hl:l.length≤1000000):Fu l low high=some (Cg high low l):=by
  have key: ∀(r:List Int) (i:Nat) (lo:Int),low≤lo→(i=0→lo=low)→(0<i→l[i - 1]? =some (lo - 1))→l.drop i=r→i≤l.length→loop (Be l low high) (i:Int)=some (if Cg high lo r then .inl ()else .inr false):=by
    intro r
    induction r with
    |nil=>
     intro i lo _ _ _ hi hil
     have:=O5 hi
     refine D2 ?_
     unfold Be
     rw [show decide ((i:Int)< (l.length:Int))=false from bG (by omega)];rfl
    |cons n r ih=>
     intro i lo hlo h0 h1 hi hil
     have hlt:=M9 hi
     have hn:l[i]? =some n:=by have:=congrArg (fun z=>z[0]?) hi;simpa using this
     have hs:Be l low high (i:Int)=some (if decide (lo≤n)&&decide (n<high)then .go ((i+1:Nat):Int)else .out (.inr false)):=by
       unfold Be
       rw [show decide ((i:Int)< (l.length:Int))=true from bF (by omega),X4 hi,bJ,lB,JF,lB,JF,lB,RN (n:=(i:Int)+1) (by omega)]
       by_cases q1:n<low
       ·rw [bF q1,bN (by simp;omega)];rfl
       ·rw [bG q1]
        simp only [bU,bJ,bV]
        by_cases q2:n≥high
        ·rw [bF q2,bN (by simp;omega)];rfl
        ·rw [bG q2]
         simp only [bU,bO,bV]
         by_cases q3:(i:Int)>0
         ·have e:C3 l (D8 ((i:Int) - 1))=some (lo - 1):=by
            rw [RN (n:=(i:Int) - 1) (by omega),show (i:Int) - 1=((i - 1:Nat):Int) by omega]
            exact D0 (h1 (by omega))
          rw [bF q3,bJ,bJ,e,lB,bO]
          by_cases q4:n≤lo - 1
          ·rw [bF q4,bN (by simp;omega)];rfl
          ·rw [bG q4,bM (by simp;omega)];rfl
         ·have:lo=low:=h0 (by omega)
          rw [bG q3,bK,lB,bQ,bM (by simp;omega)];rfl
     unfold Cg
     cases q:(decide (lo≤n)&&decide (n<high))
     ·rw [q]at hs;rw [D2 hs];rfl
     ·rw [q]at hs
      simp only [bR,bH]at q
      rw [J9 hs,ih (i+1) (n+1) (by omega) (fun z=>by omega) (fun _=>by rw [Nat.add_sub_cancel,hn];congr 1;omega) (K0 hi) (by omega)];rfl
  unfold Fu
  have:=key l 0 low (Int.le_refl _) (fun _=>rfl) (fun z=>by omega) rfl (by omega)
  rw [show ((0:Nat):Int)=0 from rfl]at this
  rw [this]
  cases Cg high low l<;>rfl
noncomputable def Rx (c:Curve):Int:=Wy 0 (Eg c)
theorem kO {m:Map}{i:Nat}{l:Lane}(h:m.Lanes[i]? =some l)(hl:l.Curve_.Pts.length≤1000000):Cp m (i:Int)=some (Rx l.Curve_):=by
  unfold Cp
  rw [D0 h,lB,Xp _ hl];rfl
/-- The lists of a map are of bearable lengths. -/
structure Bear (m:Map):Prop where
  lanes:m.Lanes.length≤1000000
  pts: ∀l∈m.Lanes,l.Curve_.Pts.length≤1000000∧l.Next.length≤1000000
noncomputable def laneE (n:Nat)(i:Nat)(l:Lane):Option Int:=
  if (Gz l.Kind).1=0 then some 4
  else if Ay l.Curve_.Pts≠0 then some (Ay l.Curve_.Pts)
  else if (Vg l.Half 200 4000&&Vg l.Limit 1 (Gz l.Kind).1)=false then some 2
  else if 3<l.Next.length then some 8
  else if Cg n (i+1) l.Next=false then some 11 else none
theorem gB {m:Map}(B:Bear m):U5 ⟨m⟩=some ((J6 (laneE m.Lanes.length) 0 m.Lanes).getD 0):=by
  have h:=Aa m.Lanes (Q8 ⟨m⟩) (laneE m.Lanes.length) (fun i l hl=>by
    have hi:=I7 hl
    have hb:=B.lanes
    obtain ⟨p1,p2⟩:=B.pts l (lG hl)
    unfold Q8 laneE
    dsimp only
    rw [show decide ((i:Int)< (m.Lanes.length:Int))=true from bF (by omega),D0 hl,bJ,lB,GR,lB,Om _ p1,lB,Ps,Ps,lB,JF,lB,RN (n:=(i:Int)+1) (by omega),GS _ _ _ p2 (by omega) (by omega),lB]
    by_cases h1:(Gz l.Kind).1=0
    ·rw [bM h1,show ((Gz l.Kind).1==0)=true by simpa using h1];rfl
    ·rw [bN h1,show ((Gz l.Kind).1==0)=false by simpa using h1,bK]
     by_cases h2:Ay l.Curve_.Pts≠0
     ·rw [bM h2,show (Ay l.Curve_.Pts !=0)=true by simpa using h2];rfl
     ·rw [bN h2,show (Ay l.Curve_.Pts !=0)=false by simpa using h2,bK]
      cases Vg l.Half 200 4000
      ·rfl
      ·cases Vg l.Limit 1 (Gz l.Kind).1
       ·rfl
       ·simp only [bT,bU,bJ,bK,bV,Bool.and_self]
        rw [bN (by decide)]
        by_cases h3:3<l.Next.length
        ·rw [bM h3,show decide ((l.Next.length:Int)>3)=true from bF (by omega)];rfl
        ·rw [bN h3,show decide ((l.Next.length:Int)>3)=false from bG (by omega),bK]
         cases Cg (m.Lanes.length:Int) ((i:Int)+1) l.Next<;>rfl) (by
    unfold Q8
    dsimp only
    rw [show decide ((m.Lanes.length:Int)< (m.Lanes.length:Int))=false from bG (by omega)];rfl)
  unfold U5
  rw [h]
  cases J6 (laneE m.Lanes.length) 0 m.Lanes<;>rfl
theorem gC (k:Int):((decide (k<1))||(decide (k>3)))=decide ((Gz k).1=0):=by
  unfold Gz
  by_cases h1:k=1
  ·subst h1;rfl
  ·by_cases h2:k=2
   ·subst h2;rfl
   ·by_cases h3:k=3
    ·subst h3;rfl
    ·rw [bN h1,bN h2,bN h3]
     simp only [decide_true,bS,bH]
     omega
theorem gD {m:Map}(B:Bear m){i:Nat}{l:Lane}(hl:m.Lanes[i]? =some l):Io m (i:Int)=some ((laneE m.Lanes.length i l).getD 0):=by
  have hi:=I7 hl
  have hb:=B.lanes
  obtain ⟨p1,p2⟩:=B.pts l (lG hl)
  unfold Io laneE
  rw [D0 hl,lB,gC,AD _ p1,lB,Xc,lB,Ts,Ts,lB,JF,lB,RN (n:=(i:Int)+1) (by omega),DJ _ _ _ p2,lB]
  by_cases h1:(Gz l.Kind).1=0
  ·rw [bM h1,bF h1];rfl
  ·rw [bN h1,bG h1,bK]
   by_cases h2:Ay l.Curve_.Pts≠0
   ·rw [bM h2,show (Ay l.Curve_.Pts !=0)=true by simpa using h2];rfl
   ·rw [bN h2,show (Ay l.Curve_.Pts !=0)=false by simpa using h2,bK]
    cases Vg l.Half 200 4000
    ·rfl
    ·cases Vg l.Limit 1 (Gz l.Kind).1
     ·rfl
     ·simp only [bT,bU,bJ,bK,bV,Bool.and_self]
      rw [bN (by decide)]
      by_cases h3:3<l.Next.length
      ·rw [bM h3,show decide ((l.Next.length:Int)>3)=true from bF (by omega)];rfl
      ·rw [bN h3,show decide ((l.Next.length:Int)>3)=false from bG (by omega),bK]
       cases Cg (m.Lanes.length:Int) ((i:Int)+1) l.Next<;>rfl
theorem LZ {n i:Nat}{l:Lane}{e:Int}(h:laneE n i l=some e):e≠0:=by
  unfold laneE at h
  split at h
  ·cases h;decide
  ·split at h
   ·rename_i h2;cases h;exact h2
   ·split at h
    ·cases h;decide
    ·split at h
     ·cases h;decide
     ·split at h
      ·cases h;decide
      ·cases h
theorem TU {m:Map}(B:Bear m):loop (Dy m) 0=some (LY (J6 (laneE m.Lanes.length) 0 m.Lanes)):=
  Aa m.Lanes (Dy m) (laneE m.Lanes.length) (fun i l hl=>by
   have hi:=I7 hl
   have hb:=B.lanes
   unfold Dy
   rw [show decide ((i:Int)< (m.Lanes.length:Int))=true from bF (by omega),gD B hl,bJ,lB,RN (n:=(i:Int)+1) (by omega)]
   cases h:laneE m.Lanes.length i l with
   |none=>rfl
   |some e=>
    rw [Option.getD_some,show (e !=0)=true by simpa using LZ h];rfl) (by
   unfold Dy
   rw [show decide ((m.Lanes.length:Int)< (m.Lanes.length:Int))=false from bG (by omega)];rfl)
theorem Lf {high:Int}: ∀{l:List Int} {low:Int},Cg high low l=true→∀k∈l,low≤k∧k<high
  | [],_,_,k,hk=>by cases hk
  |n::r,low,h,k,hk=>by
   unfold Cg at h
   simp only [bR,bH]at h
   rcases lU.1 hk with rfl|hk
   ·exact h.1
   ·have:=Lf h.2 k hk
    omega
/-- What a lane is that has no error of its own. -/
structure LaneOK (n i:Nat)(l:Lane):Prop where
  kind:(Gz l.Kind).1≠0
  curve:Ay l.Curve_.Pts=0
  half:Vg l.Half 200 4000=true
  limit:Vg l.Limit 1 (Gz l.Kind).1=true
  few:l.Next.length≤3
  next:Cg n (i+1) l.Next=true
theorem WQ {n i:Nat}{l:Lane}(h:laneE n i l=none):LaneOK n i l:=by
  unfold laneE at h
  split at h
  ·cases h
  ·rename_i h1
   split at h
   ·cases h
   ·rename_i h2
    split at h
    ·cases h
    ·rename_i h3
     split at h
     ·cases h
     ·rename_i h4
      split at h
      ·cases h
      ·rename_i h5
       simp only [Bool.not_eq_false,bR]at h3
       exact ⟨h1,Decidable.not_not.1 h2,h3.1,h3.2,by omega,by simpa using h5⟩
theorem AG {m:Map}(h:J6 (laneE m.Lanes.length) 0 m.Lanes=none){i:Nat}{l:Lane}(hl:m.Lanes[i]? =some l):LaneOK m.Lanes.length i l:=by
  have:=firstE_none.1 h i l hl
  rw [wG]at this
  exact WQ this
theorem GU {l:List Spot}(h:Ay l=0):2≤l.length:=by
  unfold Ay at h
  split at h
  ·cases h
  ·omega
def CI (l:List Spot):Spot:=l.headD ⟨0,0⟩
def Xs (l:List Spot):Spot:=l.getLastD ⟨0,0⟩
theorem OV {l:List Spot}(h:2≤l.length):C3 l 0=some (CI l):=by
  cases l with
  |nil=>simp at h
  |cons a r=>rfl
theorem OW {l:List Spot}(h:2≤l.length)(hl:l.length≤1000000):C3 l (D8 ((l.length:Int) - 1))=some (Xs l):=by
  rw [RN (by omega),show (l.length:Int) - 1=((l.length - 1:Nat):Int) by omega]
  refine D0 ?_
  unfold Xs
  rw [List.getLastD_eq_getLast?,List.getLast?_eq_getElem?]
  rw [lH (by omega)];rfl
def TV (a b:Spot):Bool:=a.X==b.X&& (a.Y==b.Y&&true)
def AH (m:Map)(l:Lane)(_:Nat)(k:Int):Option Int:=
  match m.Lanes[k.toNat]? with
  |some n=>if n.Kind≠l.Kind then some 4 else if TV (CI n.Curve_.Pts) (Xs l.Curve_.Pts)=false then some 3 else none
  |none=>none
def nextE (m:Map)(_:Nat)(l:Lane):Option Int:=J6 (AH m l) 0 l.Next
theorem MA {m:Map}(B:Bear m)(H:J6 (laneE m.Lanes.length) 0 m.Lanes=none){i:Nat}{l:Lane}(hl:m.Lanes[i]? =some l){j:Nat}{k:Int}(hk:l.Next[j]? =some k):
    ∃n,C3 m.Lanes k=some n∧m.Lanes[k.toNat]? =some n∧2≤n.Curve_.Pts.length∧n.Curve_.Pts.length≤1000000:=by
  have L:=AG H hl
  have hb:=Lf L.next k (lG hk)
  have hlt:k.toNat<m.Lanes.length:=by omega
  refine ⟨m.Lanes[k.toNat],?_,lH hlt,GU (AG H (lH hlt)).curve,(B.pts _ (List.getElem_mem hlt)).1⟩
  unfold C3
  rw [bM (by omega),lH hlt]
theorem aM {m:Map}{l:Lane}{j:Nat}{k e:Int}(h:AH m l j k=some e):e≠0:=by
  unfold AH at h
  split at h
  ·split at h
   ·cases h;decide
   ·split at h
    ·cases h;decide
    ·cases h
  ·cases h
theorem OX {m:Map}(B:Bear m)(H:J6 (laneE m.Lanes.length) 0 m.Lanes=none){i:Nat}{l:Lane}(hl:m.Lanes[i]? =some l):
    loop (X5 ⟨m⟩ l (Xs l.Curve_.Pts)) 0=some (LY (nextE m i l))∧loop (Bf m l) 0=some (LY (nextE m i l)):=by
  have L:=AG H hl
  obtain ⟨p1,p2⟩:=B.pts l (lG hl)
  constructor
  ·refine Aa l.Next _ (AH m l) (fun j k hk=> ?_) ?_
   ·have hj:=I7 hk
    obtain ⟨n,g1,g2,g3,g4⟩:=MA B H hl hk
    unfold X5 AH
    dsimp only
    rw [show decide ((j:Int)< (l.Next.length:Int))=true from bF (by omega),D0 hk,bJ,lB,g1,lB,lB,OV g3,lB,RN (n:=(j:Int)+1) (by omega),g2]
    dsimp only
    rw [show ((CI n.Curve_.Pts).X==(Xs l.Curve_.Pts).X&& ((CI n.Curve_.Pts).Y==(Xs l.Curve_.Pts).Y&&true))=TV (CI n.Curve_.Pts) (Xs l.Curve_.Pts) from rfl]
    by_cases h1:n.Kind≠l.Kind
    ·rw [bM h1,show (n.Kind !=l.Kind)=true by simpa using h1];rfl
    ·rw [bN h1,show (n.Kind !=l.Kind)=false by simpa using h1]
     cases TV (CI n.Curve_.Pts) (Xs l.Curve_.Pts)<;>rfl
   ·unfold X5
    rw [show decide ((l.Next.length:Int)< (l.Next.length:Int))=false from bG (by omega)];rfl
  ·refine Aa l.Next _ (AH m l) (fun j k hk=> ?_) ?_
   ·have hj:=I7 hk
    obtain ⟨n,g1,g2,g3,g4⟩:=MA B H hl hk
    unfold Bf AH
    rw [show decide ((j:Int)< (l.Next.length:Int))=true from bF (by omega),D0 hk,bJ,lB,g1,lB,OV g3,lB,OW (GU L.curve) p1,lB,RN (n:=(j:Int)+1) (by omega),g2]
    dsimp only
    rw [show ((CI n.Curve_.Pts).X==(Xs l.Curve_.Pts).X&& ((CI n.Curve_.Pts).Y==(Xs l.Curve_.Pts).Y&&true))=TV (CI n.Curve_.Pts) (Xs l.Curve_.Pts) from rfl]
    by_cases h1:n.Kind≠l.Kind
    ·rw [bM h1,show (n.Kind !=l.Kind)=true by simpa using h1];rfl
    ·rw [bN h1,show (n.Kind !=l.Kind)=false by simpa using h1]
     cases TV (CI n.Curve_.Pts) (Xs l.Curve_.Pts)<;>rfl
   ·unfold Bf
    rw [show decide ((l.Next.length:Int)< (l.Next.length:Int))=false from bG (by omega)];rfl
theorem OY {m:Map}(B:Bear m)(H:J6 (laneE m.Lanes.length) 0 m.Lanes=none):
    U0 ⟨m⟩=some ((J6 (nextE m) 0 m.Lanes).getD 0)∧Ip m=some ((J6 (nextE m) 0 m.Lanes).getD 0):=by
  have hb:=B.lanes
  constructor
  ·have h:=Aa m.Lanes (P5 ⟨m⟩) (nextE m) (fun i l hl=>by
     have hi:=I7 hl
     have L:=AG H hl
     obtain ⟨p1,p2⟩:=B.pts l (lG hl)
     unfold P5
     dsimp only
     rw [show decide ((i:Int)< (m.Lanes.length:Int))=true from bF (by omega),D0 hl,bJ,lB,OW (GU L.curve) p1,lB,(OX B H hl).1,RN (n:=(i:Int)+1) (by omega)]
     cases nextE m i l<;>rfl) (by
     unfold P5
     dsimp only
     rw [show decide ((m.Lanes.length:Int)< (m.Lanes.length:Int))=false from bG (by omega)];rfl)
   unfold U0
   rw [h]
   cases J6 (nextE m) 0 m.Lanes<;>rfl
  ·have h:=Aa m.Lanes (Bg m) (nextE m) (fun i l hl=>by
     have hi:=I7 hl
     unfold Bg
     rw [show decide ((i:Int)< (m.Lanes.length:Int))=true from bF (by omega),D0 hl,bJ,lB,(OX B H hl).2,RN (n:=(i:Int)+1) (by omega)]
     cases nextE m i l<;>rfl) (by
     unfold Bg
     rw [show decide ((m.Lanes.length:Int)< (m.Lanes.length:Int))=false from bG (by omega)];rfl)
   unfold Ip
   rw [h]
   cases J6 (nextE m) 0 m.Lanes<;>rfl
/-- The place of the first element with a property. -/
theorem MB {α:Type}{f:Int→Option (Stp Int (Sum Unit Int))}(l:List α)(P:α→Bool)(hl:l.length≤1000000000)(hf: ∀(i:Nat) a,l[i]? =some a→f (i:Int)=some (if P a then .out (.inr (i:Int))else .go (D8 ((i:Int)+1))))(he:f (l.length:Int)=some (.out (.inl ()))):
    loop f 0=some (match l.findIdx? P with|some i=> .inr (i:Int)|none=> .inl ()):=by
  have key: ∀(r:List α) (i:Nat),l.drop i=r→i≤l.length→loop f (i:Int)=some (match r.findIdx? P with|some j=> .inr ((i+j:Nat):Int)|none=> .inl ()):=by
    intro r
    induction r with
    |nil=>
     intro i hi hil
     have:=O5 hi
     obtain rfl:i=l.length:=by omega
     rw [D2 he];rfl
    |cons a r ih=>
     intro i hi _
     have hlt:=M9 hi
     have h0:l[i]? =some a:=by have:=congrArg (fun z=>z[0]?) hi;simpa using this
     have hs:=hf i a h0
     rw [List.findIdx?_cons]
     by_cases hp:P a=true
     ·rw [bM hp]at hs
      rw [D2 hs,bM hp];simp
     ·rw [bN hp]at hs
      rw [F8 (by omega)]at hs
      rw [J9 hs,show ((i:Int)+1)=((i+1:Nat):Int) by omega,ih (i+1) (K0 hi) (by omega),bN hp]
      cases r.findIdx? P with
      |none=>rfl
      |some j=>simp only [lF];congr 3;omega
  have:=key l 0 rfl (by omega)
  rw [show ((0:Nat):Int)=0 from rfl]at this
  rw [this]
  cases l.findIdx? P<;>simp
/-- -1, or the place. -/
def GV {α:Type}(P:α→Bool)(l:List α):Int:=match l.findIdx? P with|some i=>(i:Int)|none=> -1
theorem Vt {α:Type}(P:α→Bool)(l:List α):decide (GV P l≥0)=l.any P:=by
  unfold GV
  cases h:l.findIdx? P with
  |none=>
   have:=List.findIdx?_eq_none_iff.1 h
   rw [show l.any P=false by rw [List.any_eq_false];intro x hx;simpa using this x hx]
   decide
  |some i=>
   have:=List.findIdx?_isSome (xs:=l) (p:=P)
   rw [h]at this
   rw [← this]
   simp
/-- What both twins compute of a list. -/
theorem Tt {α:Type}{f:Int→Option (Stp Int (Sum Unit Int))}(l:List α)(P:α→Bool)(hl:l.length≤1000000000)(hf: ∀(i:Nat) a,l[i]? =some a→f (i:Int)=some (if P a then .out (.inr (i:Int))else .go (D8 ((i:Int)+1))))(he:f (l.length:Int)=some (.out (.inl ()))):
    thenS (loop f 0) (fun _=>some (-1)) (fun r=>some r)=some (GV P l):=by
  rw [MB l P hl hf he]
  unfold GV
  cases l.findIdx? P<;>rfl
theorem aN (l:List Phase)(hl:l.length≤1000000):F0 l=some (l.any fun p=> !Vg p.Ticks 1 10000):=by
  unfold F0 G7
  rw [Tt l (fun p=> !Vg p.Ticks 1 10000) (by omega) (fun i a h=>by
   have:=I7 h
   unfold J7 Ef
   rw [show decide ((i:Int)< (l.length:Int))=true from bF (by omega),D0 h,bJ,lB,Ps,lB,lB]
   cases Vg a.Ticks 1 10000<;>rfl) (by
   unfold J7
   simp)]
  rw [lB,Vt]
theorem WR (m:Map)(l:List Phase)(hl:l.length≤1000000)(hm:m.Lanes.length≤1000000)(hg: ∀p∈l,p.Green.length≤1000000):E9 l ⟨m⟩=some (l.any fun p=> !Cg m.Lanes.length 0 p.Green):=by
  unfold E9 G5
  rw [Tt l (fun p=> !Cg m.Lanes.length 0 p.Green) (by omega) (fun i a h=>by
   have:=I7 h
   unfold E8 S7
   dsimp only
   rw [show decide ((i:Int)< (l.length:Int))=true from bF (by omega),D0 h,bJ,lB,GS _ _ _ (hg a (lG h)) (by omega) (by omega),lB,lB]
   cases Cg (m.Lanes.length:Int) 0 a.Green<;>rfl) (by
   unfold E8
   simp)]
  rw [lB,Vt]
structure BearS (m:Map):Prop where
  many:m.Signals.length≤1000000
  phases: ∀s∈m.Signals,s.Phases.length≤1000000∧∀p∈s.Phases,p.Green.length≤1000000
def signalE (m:Map)(_:Nat)(s:Signal):Option Int:=
  if s.Phases.length=0 then some 6
  else if 6<s.Phases.length then some 8
  else if Vg s.Offset 0 1099511627776=false then some 2
  else if (s.Phases.any fun p=> !Vg p.Ticks 1 10000)=true then some 2
  else if (s.Phases.any fun p=> !Cg m.Lanes.length 0 p.Green)=true then some 11 else none
theorem WS {m:Map}(B:Bear m)(S:BearS m):S4 ⟨m⟩=some ((J6 (signalE m) 0 m.Signals).getD 0):=by
  have h:=Aa m.Signals (O8 ⟨m⟩) (signalE m) (fun i s hs=>by
    have hi:=I7 hs
    have hb:=S.many
    obtain ⟨p1,p2⟩:=S.phases s (lG hs)
    unfold O8 signalE
    dsimp only
    rw [show decide ((i:Int)< (m.Signals.length:Int))=true from bF (by omega),D0 hs,bJ,lB,Ps,lB,aN _ p1,lB,WR m _ p1 B.lanes p2,lB,RN (n:=(i:Int)+1) (by omega)]
    by_cases h1:s.Phases.length=0
    ·rw [bM h1,h1];rfl
    ·rw [bN h1,show ((s.Phases.length:Int)==0)=false by simp only [beq_eq_false_iff_ne];omega,bK]
     by_cases h2:6<s.Phases.length
     ·rw [bM h2,show decide ((s.Phases.length:Int)>6)=true from bF (by omega)];rfl
     ·rw [bN h2,show decide ((s.Phases.length:Int)>6)=false from bG (by omega),bK]
      cases Vg s.Offset 0 1099511627776
      ·rfl
      ·cases (s.Phases.any fun p=> !Vg p.Ticks 1 10000)
       ·cases (s.Phases.any fun p=> !Cg m.Lanes.length 0 p.Green)<;>rfl
       ·rfl) (by
    unfold O8
    dsimp only
    rw [show decide ((m.Signals.length:Int)< (m.Signals.length:Int))=false from bG (by omega)];rfl)
  unfold S4
  rw [h]
  cases J6 (signalE m) 0 m.Signals<;>rfl
theorem TW (s:Signal)(hl:s.Phases.length≤1000000): ∀(r:List Phase) (i:Nat) (b:Bool),s.Phases.drop i=r→i≤s.Phases.length→loop (V8 s) (b,(i:Int))=some (b&& !(r.any fun p=> !Vg p.Ticks 1 10000)):=by
  intro r
  induction r with
  |nil=>
   intro i b hi hil
   have:=O5 hi
   refine D2 ?_
   unfold V8
   dsimp only
   rw [show decide ((i:Int)< (s.Phases.length:Int))=false from bG (by omega)]
   simp
  |cons p r ih=>
   intro i b hi hil
   have hlt:=M9 hi
   have hs:V8 s (b,(i:Int))=some (.go (b&&Vg p.Ticks 1 10000,((i+1:Nat):Int))):=by
     unfold V8
     dsimp only
     rw [show decide ((i:Int)< (s.Phases.length:Int))=true from bF (by omega),X4 hi,RN (n:=(i:Int)+1) (by omega)]
     cases b<;>rfl
   rw [J9 hs,ih (i+1) _ (K0 hi) (by omega),List.any_cons]
   cases b<;>cases Vg p.Ticks 1 10000<;>simp
theorem QZ (m:Map)(s:Signal)(hl:s.Phases.length≤1000000)(hg: ∀p∈s.Phases,p.Green.length≤1000000):loop (V7 m s) 0=some (if (s.Phases.any fun p=> !Cg m.Lanes.length 0 p.Green)=true then .inr 11 else .inl ()):=by
  have h:=Aa s.Phases (V7 m s) (fun _ p=>if Cg m.Lanes.length 0 p.Green then none else some 11) (fun i p hp=>by
    have:=I7 hp
    unfold V7
    rw [show decide ((i:Int)< (s.Phases.length:Int))=true from bF (by omega),D0 hp,bJ,lB,DJ _ _ _ (hg p (lG hp)),lB,RN (n:=(i:Int)+1) (by omega)]
    cases Cg (m.Lanes.length:Int) 0 p.Green<;>rfl) (by
    unfold V7
    rw [show decide ((s.Phases.length:Int)< (s.Phases.length:Int))=false from bG (by omega)];rfl)
  rw [h]
  have key: ∀(l:List Phase) (i:Nat),LY (J6 (fun (_:Nat) (p:Phase)=>if Cg (m.Lanes.length:Int) 0 p.Green=true then none else some (11:Int)) i l)=if (l.any fun p=> !Cg m.Lanes.length 0 p.Green)=true then .inr 11 else .inl ():=by
    intro l
    induction l with
    |nil=>intro i;rfl
    |cons p r ih=>
     intro i
     unfold J6
     rw [List.any_cons]
     cases hq:Cg (m.Lanes.length:Int) 0 p.Green
     ·rfl
     ·exact ih (i+1)
  rw [key]
end Go.Abs.World
/-! Loops over lists, as functions on lists. -/
namespace Go.Abs
open Go
section
variable {α β σ S τ:Type}
/-- What a loop over a list makes, with a state, and with a way out. -/
def MC (step:Nat→σ→α→Sum σ τ)(fin:σ→τ):Nat→σ→List α→τ
  |_,s,[]=>fin s
  |i,s,a::r=>match step i s a with
   | .inl s'=>MC step fin (i+1) s' r
   | .inr t=>t
theorem W7 {l:List α}{i:Nat}{a:α}{r:List α}(h:l.drop i=a::r):l[i]? =some a:=by
  have:=congrArg (fun z=>z[0]?) h
  simpa using this
theorem nB {F:S→Option (Stp S τ)}(pk:Nat→σ→S)(l:List α)(inv:Nat→σ→Prop)(step:Nat→σ→α→Sum σ τ)(fin:σ→τ){s0:σ}{S0:S}(hS:pk 0 s0=S0)(hi:inv 0 s0)
    (hF: ∀i a s,l[i]? =some a→inv i s→F (pk i s)=some (match step i s a with| .inl s'=> .go (pk (i+1) s')| .inr t=> .out t))
    (hI: ∀i a s s',l[i]? =some a→inv i s→step i s a= .inl s'→inv (i+1) s')
    (h0: ∀s,inv l.length s→F (pk l.length s)=some (.out (fin s))):loop F S0=some (MC step fin 0 s0 l):=by
  have key: ∀(r:List α) (i:Nat) (s:σ),l.drop i=r→i≤l.length→inv i s→loop F (pk i s)=some (MC step fin i s r):=by
    intro r
    induction r with
    |nil=>
     intro i s hi hil hv
     have:=O5 hi
     obtain rfl:i=l.length:=by omega
     exact D2 (h0 s hv)
    |cons a r ih=>
     intro i s hi hil hv
     have hlt:=M9 hi
     have ha:=W7 hi
     have hs:=hF i a s ha hv
     unfold MC
     cases h:step i s a with
     |inl s'=>rw [h]at hs;rw [J9 hs];exact ih (i+1) s' (K0 hi) (by omega) (hI i a s s' ha hv h)
     |inr t=>rw [h]at hs;exact D2 hs
  rw [← hS]
  exact key l 0 s0 rfl (by omega) hi
/-- The same without a way out. -/
def Xt (step:Nat→σ→α→σ):Nat→σ→List α→σ
  |_,s,[]=>s
  |i,s,a::r=>Xt step (i+1) (step i s a) r
theorem HS (step:Nat→σ→α→σ)(fin:σ→τ): ∀(l:List α) (i:Nat) (s:σ),MC (fun i s a=> .inl (step i s a)) fin i s l=fin (Xt step i s l)
  | [],_,_=>rfl
  |_::r,i,_=>HS step fin r (i+1) _
theorem YO {F:S→Option (Stp S τ)}(pk:Nat→σ→S)(l:List α)(inv:Nat→σ→Prop)(step:Nat→σ→α→σ)(fin:σ→τ){s0:σ}{S0:S}(hS:pk 0 s0=S0)(hi:inv 0 s0)
    (hF: ∀i a s,l[i]? =some a→inv i s→F (pk i s)=some (.go (pk (i+1) (step i s a))))
    (hI: ∀i a s,l[i]? =some a→inv i s→inv (i+1) (step i s a))
    (h0: ∀s,inv l.length s→F (pk l.length s)=some (.out (fin s))):loop F S0=some (fin (Xt step 0 s0 l)):=by
  rw [← HS step fin]
  exact nB pk l inv _ fin hS hi hF (fun i a s s' h1 h2 h3=>by cases h3;exact hI i a s h1 h2) h0
/-- The elements that a loop gathers. -/
def Ci (g:Nat→α→Option β):Nat→List α→List β
  |_,[]=> []
  |i,a::r=>match g i a with
   |some b=>b::Ci g (i+1) r
   |none=>Ci g (i+1) r
theorem Vu (g:Nat→α→Option β): ∀(l:List α) (i:Nat),(Ci g i l).length≤l.length
  | [],_=>wD _
  |a::r,i=>by
   have:=Vu g r (i+1)
   unfold Ci
   cases g i a<;>simp only [lL]<;>omega
theorem DK (g:Nat→α→Option β): ∀(l:List α) (i:Nat) (s:List β),Xt (fun i s a=>match g i a with|some b=>s++ [b]|none=>s) i s l=s++Ci g i l
  | [],_,s=>by simp [Xt,Ci]
  |a::r,i,s=>by
   unfold Xt Ci
   rw [DK g r (i+1)]
   cases g i a<;>simp
theorem gE {F:S→Option (Stp S τ)}(pk:Nat→List β→S)(l:List α)(g:Nat→α→Option β)(fin:List β→τ){S0:S}(hS:pk 0 []=S0)
    (hF: ∀i a (s:List β),l[i]? =some a→s.length≤i→F (pk i s)=some (.go (pk (i+1) (match g i a with|some b=>s++ [b]|none=>s))))
    (h0: ∀s,F (pk l.length s)=some (.out (fin s))):loop F S0=some (fin (Ci g 0 l)):=by
  have:=YO pk l (fun i s=>s.length≤i) (fun i s a=>match g i a with|some b=>s++ [b]|none=>s) fin hS (by simp) hF (fun i a s _ hs=>by
    cases g i a<;>simp<;>omega) (fun s _=>h0 s)
  rw [this,DK,lQ]
theorem GW {F:List β×Int→Option (Stp (List β×Int) τ)}(l:List α)(g:Nat→α→Option β)(fin:List β→τ)
    (hF: ∀(i:Nat) a (s:List β),l[i]? =some a→s.length≤i→F (s,(i:Int))=some (.go ((match g i a with|some b=>s++ [b]|none=>s),((i+1:Nat):Int))))
    (h0: ∀s,F (s,(l.length:Int))=some (.out (fin s))):loop F ([],0)=some (fin (Ci g 0 l)):=gE (fun i s=>(s,(i:Int))) l g fin rfl hF h0
/-- Is there one? -/
theorem HT {F:Int→Option (Stp Int (Sum Unit β))}(l:List α)(p:α→Bool)(v:β)(hF: ∀(i:Nat) a,l[i]? =some a→F (i:Int)=some (if p a then .out (.inr v)else .go ((i+1:Nat):Int)))(h0:F (l.length:Int)=some (.out (.inl ()))):
    loop F 0=some (if l.any p then .inr v else .inl ()):=by
  have key: ∀(l:List α) (i:Nat),MC (fun _ _ a=>if p a then Sum.inr (Sum.inr v)else Sum.inl ()) (fun _=>(Sum.inl ():Sum Unit β)) i () l=if l.any p then .inr v else .inl ():=by
    intro l
    induction l with
    |nil=>intro i;rfl
    |cons a r ih=>
     intro i
     unfold MC
     rw [List.any_cons]
     cases h:p a
     ·exact ih (i+1)
     ·rfl
  rw [← key l 0]
  exact nB (F:=F) (σ:=Unit) (fun i _=>(i:Int)) l (fun _ _=>True) _ _ (s0:=()) rfl trivial (fun i a _ h _=>by rw [hF i a h];cases p a<;>rfl) (fun _ _ _ _ _ _ _=>trivial) (fun _ _=>h0)
end
theorem K7 {i:Nat}{n:Nat}(h:i<n):decide ((i:Int)< (n:Int))=true:=bF (by omega)
theorem J3 (n:Nat):decide ((n:Int)< (n:Int))=false:=bG (by omega)
theorem H8 {i:Nat}{n:Nat}(h:i<n)(hn:n≤1000000000000):D8 ((i:Int)+1)=((i+1:Nat):Int):=by rw [F8 (by omega)];omega
end Go.Abs
namespace Go.Abs.World
open Go Go.Abs
structure BearZ (m:Map):Prop where
  many:m.Zones.length≤1000000
  parts: ∀z∈m.Zones,z.Parts.length≤1000000
noncomputable def Q3 (m:Map)(k:Int):Int:=((m.Lanes[k.toNat]?).map fun l=>Rx l.Curve_).getD 0
noncomputable def Uo (m:Map)(p:Part):Bool:=decide (p.From<0)||decide (p.From≥p.To)||decide (p.To>Q3 m p.Lane_)||decide (p.Rank<0)||decide (p.Rank>100)
noncomputable def zoneE (m:Map)(_:Nat)(z:Zone):Option Int:=
  if z.Parts.length<2 then some 6
  else if 6<z.Parts.length then some 8
  else if z.Signal_<0∨(m.Signals.length:Int)<z.Signal_ then some 2
  else if Cg m.Lanes.length 0 (z.Parts.map (·.Lane_))=false then some 11
  else if z.Parts.any (Uo m)=true then some 2 else none
theorem Up {m:Map}{k:Int}(h0:0≤k)(h1:k<m.Lanes.length): ∃l,m.Lanes[k.toNat]? =some l∧C3 m.Lanes k=some l:=by
  have hlt:k.toNat<m.Lanes.length:=by omega
  refine ⟨m.Lanes[k.toNat],lH hlt,?_⟩
  unfold C3
  rw [bM h0,lH hlt]
theorem JG {m:Map}(B:Bear m){k:Int}(h0:0≤k)(h1:k<m.Lanes.length):Cp m k=some (Q3 m k):=by
  obtain ⟨l,e1,e2⟩:=Up h0 h1
  have:=kO (m:=m) e1 (B.pts l (lG e1)).1
  rw [show ((k.toNat:Nat):Int)=k by omega]at this
  rw [this,Q3,e1];rfl
theorem MD {m:Map}(B:Bear m){k:Int}(h0:0≤k)(h1:k<m.Lanes.length): ∃l,C3 m.Lanes k=some l∧De l.Curve_=some (Q3 m k):=by
  obtain ⟨l,e1,e2⟩:=Up h0 h1
  refine ⟨l,e2,?_⟩
  rw [Xq _ (B.pts l (lG e1)).1,Q3,e1];rfl
theorem TX {α β:Type}(f:α→β): ∀(l:List α) (i:Nat),Ci (fun _ a=>some (f a)) i l=l.map f
  | [],_=>rfl
  |a::r,i=>by rw [Ci,TX f r];rfl
theorem gF {z:Zone}{F:List Int×Int→Option (Stp (List Int×Int) (List Int))}(hl:z.Parts.length≤1000000)
    (hF: ∀x,F x=cond (decide (x.2< (z.Parts.length:Int))) ((C3 z.Parts x.2).bind fun v=>(Am x.1 [v.Lane_]).bind fun w=>some (.go (w,D8 (x.2+1)))) (some (.out x.1))):
    loop F ([],0)=some (z.Parts.map (·.Lane_)):=by
  rw [← TX (fun p:Part=>p.Lane_) z.Parts 0]
  refine gE (fun i s=>(s,(i:Int))) z.Parts (fun _ p=>some p.Lane_) id rfl (fun i a s ha hs=> ?_) (fun s=> ?_)
  ·have hi:=I7 ha
   rw [hF,K7 hi,D0 ha,bJ,lB,Ee (by simp;omega),lB,H8 hi (by omega)]
  ·rw [hF,J3];rfl
theorem gG {m:Map}(B:Bear m)(Z:BearZ m):U6 ⟨m⟩=some ((J6 (zoneE m) 0 m.Zones).getD 0):=by
  have hb:=B.lanes
  have h:=Aa m.Zones (R0 ⟨m⟩) (zoneE m) (fun i z hz=>by
    have hi:=I7 hz
    have hm:=Z.many
    have p1:=Z.parts z (lG hz)
    unfold R0 zoneE
    dsimp only
    rw [K7 hi,D0 hz,bJ,lB,gF p1 (F:=Ey z) (fun x=>rfl),lB,GS _ _ _ (by simpa using p1) (by omega) (by omega),lB,H8 hi (by omega)]
    by_cases h1:z.Parts.length<2
    ·rw [bM h1,show decide ((z.Parts.length:Int)<2)=true from bF (by omega)];rfl
    ·rw [bN h1,show decide ((z.Parts.length:Int)<2)=false from bG (by omega),bK]
     by_cases h2:6<z.Parts.length
     ·rw [bM h2,show decide ((z.Parts.length:Int)>6)=true from bF (by omega)];rfl
     ·rw [bN h2,show decide ((z.Parts.length:Int)>6)=false from bG (by omega),bK]
      by_cases h3:z.Signal_<0∨(m.Signals.length:Int)<z.Signal_
      ·rw [bM h3,show ((decide (z.Signal_<0))||(decide (z.Signal_>(m.Signals.length:Int))))=true by simpa using h3];rfl
      ·rw [bN h3,show ((decide (z.Signal_<0))||(decide (z.Signal_>(m.Signals.length:Int))))=false by rw [bW];simpa using h3,bK]
       cases h4:Cg (m.Lanes.length:Int) 0 (z.Parts.map (·.Lane_))
       ·rfl
       ·rw [bN (by decide)]
        have:=HT (F:=Q9 ⟨m⟩ z) z.Parts (Uo m) (2:Int) (fun j p hp=>by
          have hj:=I7 hp
          have hk:=Lf h4 p.Lane_ (List.mem_map.2 ⟨p,lG hp,rfl⟩)
          unfold Q9 Uo
          dsimp only
          rw [K7 hj,D0 hp,bJ,lB,JG B hk.1 hk.2,H8 hj (by omega)]
          cases h5:(decide (p.From<0)||decide (p.From≥p.To))
          ·simp only [bU,bJ,lB]
           cases (false||decide (p.To>Q3 m p.Lane_)||decide (p.Rank<0)||decide (p.Rank>100))<;>rfl
          ·rfl) (by unfold Q9;rw [J3];rfl)
        rw [this]
        cases z.Parts.any (Uo m)<;>rfl) (by
    unfold R0
    dsimp only
    rw [J3];rfl)
  unfold U6
  rw [h]
  cases J6 (zoneE m) 0 m.Zones<;>rfl
theorem gH {m:Map}(B:Bear m)(Z:BearZ m){i:Nat}{z:Zone}(hz:m.Zones[i]? =some z):Iq m z=some ((zoneE m i z).getD 0):=by
  have hb:=B.lanes
  have p1:=Z.parts z (lG hz)
  unfold Iq zoneE
  rw [gF p1 (F:=Ia z) (fun x=>rfl),lB,DJ _ _ _ (by simpa using p1),lB]
  by_cases h1:z.Parts.length<2
  ·rw [bM h1,show decide ((z.Parts.length:Int)<2)=true from bF (by omega)];rfl
  ·rw [bN h1,show decide ((z.Parts.length:Int)<2)=false from bG (by omega),bK]
   by_cases h2:6<z.Parts.length
   ·rw [bM h2,show decide ((z.Parts.length:Int)>6)=true from bF (by omega)];rfl
   ·rw [bN h2,show decide ((z.Parts.length:Int)>6)=false from bG (by omega),bK]
    by_cases h3:z.Signal_<0∨(m.Signals.length:Int)<z.Signal_
    ·rw [bM h3,show ((decide (z.Signal_<0))||(decide (z.Signal_>(m.Signals.length:Int))))=true by simpa using h3];rfl
    ·rw [bN h3,show ((decide (z.Signal_<0))||(decide (z.Signal_>(m.Signals.length:Int))))=false by rw [bW];simpa using h3,bK]
     cases h4:Cg (m.Lanes.length:Int) 0 (z.Parts.map (·.Lane_))
     ·rfl
     ·rw [bN (by decide)]
      have:=HT (F:=Bh m z) z.Parts (Uo m) (2:Int) (fun j p hp=>by
        have hj:=I7 hp
        have hk:=Lf h4 p.Lane_ (List.mem_map.2 ⟨p,lG hp,rfl⟩)
        obtain ⟨l,e1,e2⟩:=MD B hk.1 hk.2
        unfold Bh Uo
        rw [K7 hj,D0 hp,bJ,lB,e1,H8 hj (by omega)]
        cases h5:(decide (p.From<0)||decide (p.From≥p.To))
        ·simp only [bU,bJ,lB,e2]
         cases (false||decide (p.To>Q3 m p.Lane_)||decide (p.Rank<0)||decide (p.Rank>100))<;>rfl
        ·rfl) (by unfold Bh;rw [J3];rfl)
      rw [this]
      cases z.Parts.any (Uo m)<;>rfl
structure BearW (m:Map):Prop where
  many:m.Works.length≤1000000
noncomputable def workE (m:Map)(_:Nat)(w:Work):Option Int:=
  if w.Lane_<0∨(m.Lanes.length:Int)≤w.Lane_ then some 7
  else if (decide (w.From<0)||decide (w.From>w.To)||decide (w.To>Q3 m w.Lane_)||decide (w.Begin<0)||decide (w.Begin≥w.End)||decide (w.End>1099511627776)|| !Vg w.Limit 0 ((m.Lanes[w.Lane_.toNat]?).map fun l=>(Gz l.Kind).1).get!)=true then some 2 else none
theorem gI {m:Map}(B:Bear m)(W:BearW m):U7 ⟨m⟩=some ((J6 (workE m) 0 m.Works).getD 0):=by
  have hb:=B.lanes
  have h:=Aa m.Works (R3 ⟨m⟩) (workE m) (fun i w hw=>by
    have hi:=I7 hw
    have hm:=W.many
    unfold R3 workE
    dsimp only
    rw [K7 hi,D0 hw,bJ,lB,H8 hi (by omega)]
    by_cases h1:w.Lane_<0∨(m.Lanes.length:Int)≤w.Lane_
    ·rw [bM h1,show ((decide (w.Lane_<0))||(decide (w.Lane_≥(m.Lanes.length:Int))))=true by simpa using h1];rfl
    ·rw [bN h1,show ((decide (w.Lane_<0))||(decide (w.Lane_≥(m.Lanes.length:Int))))=false by rw [bW];simpa using h1,bK]
     obtain ⟨l,e1,e2⟩:=Up (m:=m) (k:=w.Lane_) (by omega) (by omega)
     rw [e2,lB,GR,lB,JG B (by omega) (by omega),Ps,e1]
     simp only [lF,Option.get!_some]
     cases (decide (w.From<0)||decide (w.From>w.To))
     ·simp only [bU,bJ,lB]
      cases (false||decide (w.To>Q3 m w.Lane_)||decide (w.Begin<0)||decide (w.Begin≥w.End)||decide (w.End>1099511627776))
      ·simp only [bU,bJ,lB]
       by_cases hq:Vg w.Limit 0 (Gz l.Kind).1=true<;>simp [hq]
      ·rfl
     ·rfl) (by
    unfold R3
    dsimp only
    rw [J3];rfl)
  unfold U7
  rw [h]
  cases J6 (workE m) 0 m.Works<;>rfl
theorem gJ {m:Map}(B:Bear m){i:Nat}(w:Work):Ir m w=some ((workE m i w).getD 0):=by
  have hb:=B.lanes
  unfold Ir workE
  by_cases h1:w.Lane_<0∨(m.Lanes.length:Int)≤w.Lane_
  ·rw [bM h1,show ((decide (w.Lane_<0))||(decide (w.Lane_≥(m.Lanes.length:Int))))=true by simpa using h1];rfl
  ·rw [bN h1,show ((decide (w.Lane_<0))||(decide (w.Lane_≥(m.Lanes.length:Int))))=false by rw [bW];simpa using h1,bK]
   obtain ⟨l,e1,e2⟩:=Up (m:=m) (k:=w.Lane_) (by omega) (by omega)
   obtain ⟨l',e3,e4⟩:=MD B (k:=w.Lane_) (by omega) (by omega)
   rw [e2]at e3
   cases e3
   rw [e2,lB,Xc,lB,e4,Ts,e1]
   simp only [lF,Option.get!_some]
   cases (decide (w.From<0)||decide (w.From>w.To))
   ·simp only [bU,bJ,lB]
    cases (false||decide (w.To>Q3 m w.Lane_)||decide (w.Begin<0)||decide (w.Begin≥w.End)||decide (w.End>1099511627776))
    ·simp only [bU,bJ,lB]
     by_cases hq:Vg w.Limit 0 (Gz l.Kind).1=true<;>simp [hq]
    ·rfl
   ·rfl
theorem WT {m:Map}(S:BearS m)(i:Nat){s:Signal}(hs:s∈m.Signals):Fh m s=some ((signalE m i s).getD 0):=by
  obtain ⟨p1,p2⟩:=S.phases s hs
  unfold Fh signalE
  rw [Ts,lB,show (0:Int)=((0:Nat):Int) from rfl,TW s p1 s.Phases 0 _ rfl (by omega),lB]
  rw [show ((0:Nat):Int)=0 from rfl,QZ m s p1 p2]
  by_cases h1:s.Phases.length=0
  ·rw [bM h1,h1];rfl
  ·rw [bN h1,show ((s.Phases.length:Int)==0)=false by simp only [beq_eq_false_iff_ne];omega,bK]
   by_cases h2:6<s.Phases.length
   ·rw [bM h2,show decide ((s.Phases.length:Int)>6)=true from bF (by omega)];rfl
   ·rw [bN h2,show decide ((s.Phases.length:Int)>6)=false from bG (by omega),bK]
    cases Vg s.Offset 0 1099511627776
    ·rfl
    ·cases (s.Phases.any fun p=> !Vg p.Ticks 1 10000)
     ·cases (s.Phases.any fun p=> !Cg m.Lanes.length 0 p.Green)<;>rfl
     ·rfl
/-- All lists of a map are of bearable lengths. -/
structure BearM (m:Map):Prop where
  toBear:Bear m
  toBearS:BearS m
  toBearZ:BearZ m
  toBearW:BearW m
theorem BearM.lanes {m:Map}(B:BearM m):m.Lanes.length≤1000000:=B.toBear.lanes
noncomputable def Vv (m:Map):Int:=
  if Vg m.Version 0 1099511627776=false then 2
  else if m.Lanes.length=0 then 6
  else if 12<m.Lanes.length∨12<m.Zones.length∨4<m.Signals.length∨8<m.Works.length then 8
  else ((J6 (laneE m.Lanes.length) 0 m.Lanes).or ((J6 (nextE m) 0 m.Lanes).or ((J6 (signalE m) 0 m.Signals).or ((J6 (zoneE m) 0 m.Zones).or (J6 (workE m) 0 m.Works))))).getD 0
theorem Bj {α:Type}{g:Nat→α→Option Int}(h: ∀i a e,g i a=some e→e≠0): ∀{l:List α} {i:Nat} {e:Int},J6 g i l=some e→e≠0
  | [],_,_,q=>by cases q
  |a::r,i,e,q=>by
   unfold J6 at q
   cases hg:g i a with
   |some e'=>rw [hg]at q;cases q;exact h i a e hg
   |none=>rw [hg]at q;exact Bj h q
theorem FM {m:Map}{i:Nat}{z:Zone}{e:Int}(h:zoneE m i z=some e):e≠0:=by
  unfold zoneE at h
  repeat' split at h
  all_goals first|(cases h;decide)|cases h
theorem Xd {m:Map}{i:Nat}{z:Signal}{e:Int}(h:signalE m i z=some e):e≠0:=by
  unfold signalE at h
  repeat' split at h
  all_goals first|(cases h;decide)|cases h
theorem ME {m:Map}{i:Nat}{z:Work}{e:Int}(h:workE m i z=some e):e≠0:=by
  unfold workE at h
  repeat' split at h
  all_goals first|(cases h;decide)|cases h
theorem MF {m:Map}{i:Nat}{z:Lane}{e:Int}(h:nextE m i z=some e):e≠0:=Bj (fun _ _ _=>aM) h
/-- A loop that goes on as long as there is no error. -/
theorem gK {α:Type}{F:Int×Int→Option (Stp (Int×Int) Int)}(l:List α)(g:Nat→α→Option Int)(hg: ∀i a e,g i a=some e→e≠0)(hl:l.length≤1000000)
    (hF: ∀(i:Nat) a,l[i]? =some a→F (0,(i:Int))=some (.go ((g i a).getD 0,((i+1:Nat):Int)))) (h0: ∀(i:Nat) (e:Int),e≠0→F (e,(i:Int))=some (.out e)) (h1:F (0,(l.length:Int))=some (.out 0)) (e0:Option Int) (he: ∀e,e0=some e→e≠0):
    loop F (e0.getD 0,0)=some ((e0.or (J6 g 0 l)).getD 0):=by
  have key: ∀(r:List α) (i:Nat),l.drop i=r→i≤l.length→loop F (0,(i:Int))=some ((J6 g i r).getD 0):=by
    intro r
    induction r with
    |nil=>
     intro i hi hil
     have:=O5 hi
     obtain rfl:i=l.length:=by omega
     exact D2 h1
    |cons a r ih=>
     intro i hi hil
     have hlt:=M9 hi
     have hs:=hF i a (W7 hi)
     rw [J9 hs]
     unfold J6
     cases h:g i a with
     |some e=>exact D2 (h0 (i+1) e (hg i a e h))
     |none=>exact ih (i+1) (K0 hi) (by omega)
  cases e0 with
  |some e=>exact D2 (h0 0 e (he e rfl))
  |none=>exact key l 0 rfl (by omega)
theorem Tu {m:Map}(B:BearM m):Kb m=some (Vv m):=by
  have hb:=B.lanes
  unfold Kb Vv
  rw [Ts,lB]
  cases Vg m.Version 0 1099511627776
  ·rfl
  ·simp only [bT,bK,Bool.true_eq_false,if_false]
   by_cases h1:m.Lanes.length=0
   ·rw [bM h1,h1];rfl
   ·rw [bN h1,show ((m.Lanes.length:Int)==0)=false by simp only [beq_eq_false_iff_ne];omega,bK]
    by_cases h2:12<m.Lanes.length∨12<m.Zones.length∨4<m.Signals.length∨8<m.Works.length
    ·rw [bM h2,show ((((decide ((m.Lanes.length:Int)>12))||(decide ((m.Zones.length:Int)>12)))||(decide ((m.Signals.length:Int)>4)))||(decide ((m.Works.length:Int)>8)))=true by simp;omega];rfl
    ·rw [bN h2,show ((((decide ((m.Lanes.length:Int)>12))||(decide ((m.Zones.length:Int)>12)))||(decide ((m.Signals.length:Int)>4)))||(decide ((m.Works.length:Int)>8)))=false by simp;omega,bK]
     rw [TU B.toBear]
     cases H:J6 (laneE m.Lanes.length) 0 m.Lanes with
     |some e=>rfl
     |none=>
      have n1: ∀e,J6 (nextE m) 0 m.Lanes=some e→e≠0:=fun e h=>Bj (fun _ _ _=>MF) h
      have n2: ∀e,(J6 (nextE m) 0 m.Lanes).or (J6 (signalE m) 0 m.Signals)=some e→e≠0:=fun e h=>by
        rcases Option.or_eq_some_iff.1 h with h|⟨_,h⟩
        ·exact n1 e h
        ·exact Bj (fun _ _ _=>Xd) h
      have n3: ∀e,((J6 (nextE m) 0 m.Lanes).or (J6 (signalE m) 0 m.Signals)).or (J6 (zoneE m) 0 m.Zones)=some e→e≠0:=fun e h=>by
        rcases Option.or_eq_some_iff.1 h with h|⟨_,h⟩
        ·exact n2 e h
        ·exact Bj (fun _ _ _=>FM) h
      simp only [LY,thenS,Option.none_or]
      rw [(OY B.toBear H).2,lB]
      rw [gK m.Signals (signalE m) (fun _ _ _=>Xd) B.toBearS.many (fun i a ha=>by
       have hi:=I7 ha
       have hm:=B.toBearS.many
       unfold Gq
       dsimp only
       rw [K7 hi,D0 ha,bO,show ((0:Int)==0)=true from rfl,bJ,lB,WT B.toBearS i (lG ha),H8 hi (by omega)];rfl) (fun i e he=>by
       unfold Gq
       dsimp only
       rw [show (e==0)=false by simpa using he,Bool.and_false];rfl) (by unfold Gq;dsimp only;rw [J3];rfl) _ n1,lB]
      rw [gK m.Zones (zoneE m) (fun _ _ _=>FM) B.toBearZ.many (fun i a ha=>by
       have hi:=I7 ha
       have hm:=B.toBearZ.many
       unfold Gp
       dsimp only
       rw [K7 hi,D0 ha,bO,show ((0:Int)==0)=true from rfl,bJ,lB,gH B.toBear B.toBearZ ha,H8 hi (by omega)];rfl) (fun i e he=>by
       unfold Gp
       dsimp only
       rw [show (e==0)=false by simpa using he,Bool.and_false];rfl) (by unfold Gp;dsimp only;rw [J3];rfl) _ n2,lB]
      rw [gK m.Works (workE m) (fun _ _ _=>ME) B.toBearW.many (fun i a ha=>by
       have hi:=I7 ha
       have hm:=B.toBearW.many
       unfold Gn
       dsimp only
       rw [K7 hi,D0 ha,bO,show ((0:Int)==0)=true from rfl,bJ,lB,gJ B.toBear (i:=i) a,H8 hi (by omega)];rfl) (fun i e he=>by
       unfold Gn
       dsimp only
       rw [show (e==0)=false by simpa using he,Bool.and_false];rfl) (by unfold Gn;dsimp only;rw [J3];rfl) _ n3,lB]
      rw [Option.or_assoc,Option.or_assoc]
theorem On {m:Map}(B:BearM m):Bu m=some (Vv m):=by
  have hb:=B.lanes
  have s0:O6 m 0=(Ak ⟨m⟩).bind fun v2=>cond (v2 !=0) (some (.out (.inr v2))) (some (.go 1)):=rfl
  have s1:O6 m 1=(U5 ⟨m⟩).bind fun v2=>cond (v2 !=0) (some (.out (.inr v2))) (some (.go 2)):=rfl
  have s2:O6 m 2=(U0 ⟨m⟩).bind fun v2=>cond (v2 !=0) (some (.out (.inr v2))) (some (.go 3)):=rfl
  have s3:O6 m 3=(S4 ⟨m⟩).bind fun v2=>cond (v2 !=0) (some (.out (.inr v2))) (some (.go 4)):=rfl
  have s4:O6 m 4=(U6 ⟨m⟩).bind fun v2=>cond (v2 !=0) (some (.out (.inr v2))) (some (.go 5)):=rfl
  have s5:O6 m 5=(U7 ⟨m⟩).bind fun v2=>cond (v2 !=0) (some (.out (.inr v2))) (some (.go 6)):=rfl
  have s6:O6 m 6=some (.out (.inl ())):=rfl
  have stp: ∀(i j:Int) (e:Option Int) (X:Option Int),(∀e',e=some e'→e'≠0)→X=some (e.getD 0)→O6 m i=X.bind (fun v2=>cond (v2 !=0) (some (.out (.inr v2))) (some (.go j)))→loop (O6 m) i=match e with|some e'=>some (.inr e')|none=>loop (O6 m) j:=by
    intro i j e X he hX hs
    subst hX
    rw [lB]at hs
    cases e with
    |none=>exact J9 hs
    |some e'=>
     rw [Option.getD_some,show (e' !=0)=true by simpa using he e' rfl]at hs
     exact D2 hs
  unfold Bu Vv
  have hnum:Ak ⟨m⟩=some ((if Vg m.Version 0 1099511627776=false then some 2 else if m.Lanes.length=0 then some 6 else if 12<m.Lanes.length∨12<m.Zones.length∨4<m.Signals.length∨8<m.Works.length then some 8 else none:Option Int).getD 0):=by
    unfold Ak
    dsimp only
    rw [Ps,lB]
    cases Vg m.Version 0 1099511627776
    ·rfl
    ·simp only [bT,bK,Bool.true_eq_false,if_false]
     by_cases h1:m.Lanes.length=0
     ·rw [bM h1,h1];rfl
     ·rw [bN h1,show ((m.Lanes.length:Int)==0)=false by simp only [beq_eq_false_iff_ne];omega,bK]
      by_cases h2:12<m.Lanes.length∨12<m.Zones.length∨4<m.Signals.length∨8<m.Works.length
      ·rw [bM h2,show ((((decide ((m.Lanes.length:Int)>12))||(decide ((m.Zones.length:Int)>12)))||(decide ((m.Signals.length:Int)>4)))||(decide ((m.Works.length:Int)>8)))=true by simp;omega];rfl
      ·rw [bN h2,show ((((decide ((m.Lanes.length:Int)>12))||(decide ((m.Zones.length:Int)>12)))||(decide ((m.Signals.length:Int)>4)))||(decide ((m.Works.length:Int)>8)))=false by simp;omega];rfl
  rw [stp 0 1 _ _ (by repeat' split
                      all_goals (intro e' h;first|(cases h;decide)|cases h)) hnum s0]
  by_cases q1:Vg m.Version 0 1099511627776=false
  ·rw [bM q1,bM q1];rfl
  ·rw [bN q1,bN q1]
   by_cases q2:m.Lanes.length=0
   ·rw [bM q2,bM q2];rfl
   ·rw [bN q2,bN q2]
    by_cases q3:12<m.Lanes.length∨12<m.Zones.length∨4<m.Signals.length∨8<m.Works.length
    ·rw [bM q3,bM q3];rfl
    ·rw [bN q3,bN q3]
     dsimp only
     rw [stp 1 2 _ _ (fun e' h=>Bj (fun _ _ _=>LZ) h) (gB B.toBear) s1]
     cases H:J6 (laneE m.Lanes.length) 0 m.Lanes with
     |some e=>rfl
     |none=>
      dsimp only
      rw [stp 2 3 _ _ (fun e' h=>Bj (fun _ _ _=>MF) h) (OY B.toBear H).1 s2]
      cases J6 (nextE m) 0 m.Lanes with
      |some e=>rfl
      |none=>
       dsimp only
       rw [stp 3 4 _ _ (fun e' h=>Bj (fun _ _ _=>Xd) h) (WS B.toBear B.toBearS) s3]
       cases J6 (signalE m) 0 m.Signals with
       |some e=>rfl
       |none=>
        dsimp only
        rw [stp 4 5 _ _ (fun e' h=>Bj (fun _ _ _=>FM) h) (gG B.toBear B.toBearZ) s4]
        cases J6 (zoneE m) 0 m.Zones with
        |some e=>rfl
        |none=>
         dsimp only
         rw [stp 5 6 _ _ (fun e' h=>Bj (fun _ _ _=>ME) h) (gI B.toBear B.toBearW) s5]
         cases J6 (workE m) 0 m.Works with
         |some e=>rfl
         |none=>dsimp only;rw [D2 s6];rfl
/-- What a valid map is. -/
structure ValR (m:Map):Prop where
  ver:0≤m.Version∧m.Version≤1099511627776
  pos:0<m.Lanes.length
  lanes:m.Lanes.length≤12
  zones:m.Zones.length≤12
  signals:m.Signals.length≤4
  works:m.Works.length≤8
  laneE:J6 (laneE m.Lanes.length) 0 m.Lanes=none
  nextE:J6 (nextE m) 0 m.Lanes=none
  signalE:J6 (signalE m) 0 m.Signals=none
  zoneE:J6 (zoneE m) 0 m.Zones=none
  workE:J6 (workE m) 0 m.Works=none
theorem aO {α:Type}{g:Nat→α→Option Int}{l:List α}(h: ∀i a e,g i a=some e→e≠0)(h0:(J6 g 0 l).getD 0=0):J6 g 0 l=none:=by
  cases q:J6 g 0 l with
  |none=>rfl
  |some e=>rw [q]at h0;exact absurd h0 (Bj h q)
theorem chkR_zero {m:Map}:Vv m=0↔ValR m:=by
  unfold Vv
  constructor
  ·intro h
   split at h
   ·cases h
   ·rename_i h1
    split at h
    ·cases h
    ·rename_i h2
     split at h
     ·cases h
     ·rename_i h3
      simp only [Vg,Bool.not_eq_false,bR,bH]at h1
      have key: ∀{o r:Option Int},(∀e,o=some e→e≠0)→(o.or r).getD 0=0→o=none∧r.getD 0=0:=by
        intro o r ho hr
        cases o with
        |none=>exact ⟨rfl,hr⟩
        |some e=>exact absurd hr (ho e rfl)
      obtain ⟨a1,h⟩:=key (fun e h=>Bj (fun _ _ _=>LZ) h) h
      obtain ⟨a2,h⟩:=key (fun e h=>Bj (fun _ _ _=>MF) h) h
      obtain ⟨a3,h⟩:=key (fun e h=>Bj (fun _ _ _=>Xd) h) h
      obtain ⟨a4,h⟩:=key (fun e h=>Bj (fun _ _ _=>FM) h) h
      exact ⟨h1,by omega,by omega,by omega,by omega,by omega,a1,a2,a3,a4,aO (fun _ _ _=>ME) h⟩
  ·rintro ⟨h1,h2,h3,h4,h5,h6,a1,a2,a3,a4,a5⟩
   rw [bN (by simp only [Vg,Bool.not_eq_false,bR,bH];exact h1),bN (by omega),bN (by omega),a1,a2,a3,a4,a5];rfl
section
variable {m:Map}
theorem ValR.laneOK (V:ValR m){i:Nat}{l:Lane}(h:m.Lanes[i]? =some l):LaneOK m.Lanes.length i l:=AG V.laneE h
theorem ValR.next (V:ValR m){i:Nat}{l:Lane}(h:m.Lanes[i]? =some l){k:Int}(hk:k∈l.Next):(i:Int)<k∧k<m.Lanes.length:=by
  have:=Lf (V.laneOK h).next k hk
  omega
end
/-- The lanes in which a lane goes on. -/
def nextOf (m:Map)(a:Nat):List Int:=((m.Lanes[a]?).map (·.Next)).getD []
theorem ValR.nextOf {m:Map}(V:ValR m){a:Nat}{k:Int}(hk:k∈World.nextOf m a):(a:Int)<k∧k<m.Lanes.length:=by
  unfold World.nextOf at hk
  cases h:m.Lanes[a]? with
  |none=>rw [h]at hk;cases hk
  |some l=>rw [h]at hk;exact V.next h hk
def Tv (m:Map)(b:Int):Nat→Nat→Bool
  |0,_=>false
  |n+1,a=>(nextOf m a).any fun k=>k==b||Tv m b n k.toNat
theorem TY {m:Map}(V:ValR m)(b:Int): ∀(n n' a:Nat),m.Lanes.length≤a+n→m.Lanes.length≤a+n'→Tv m b n a=Tv m b n' a:=by
  intro n
  induction n with
  |zero=>
   intro n' a h h'
   have:nextOf m a= []:=by
     unfold nextOf
     rw [lJ (by omega)];rfl
   cases n' with
   |zero=>rfl
   |succ n'=>rw [Tv,Tv,this];rfl
  |succ n ih=>
   intro n' a h h'
   cases n' with
   |zero=>
    have:nextOf m a= []:=by
      unfold nextOf
      rw [lJ (by omega)];rfl
    rw [Tv,Tv,this];rfl
   |succ n'=>
    rw [Tv,Tv]
    rw [Bool.eq_iff_iff,l7,l7]
    refine exists_congr fun k=>and_congr_right fun hk=> ?_
    have:=V.nextOf hk
    rw [ih n' k.toNat (by omega) (by omega)]
/-- Does a lane lead to another one? -/
def Tw (m:Map)(a:Nat)(b:Int):Bool:=Tv m b m.Lanes.length a
theorem BA {m:Map}(V:ValR m)(a:Nat)(b:Int):Tw m a b=(nextOf m a).any fun k=>k==b||Tw m k.toNat b:=by
  unfold Tw
  rw [TY V b _ (m.Lanes.length+1) a (by omega) (by omega),Tv]
/-- What is known of the sets of the lanes from a number on. -/
structure Reach (m:Map)(i:Nat)(l:List Nat):Prop where
  len:l.length=12
  small: ∀(a x:Nat),l[a]? =some x→x<2^32
  zero: ∀(a:Nat),a<i→l[a]? =some 0
  bits: ∀(a x:Nat),i≤a→a<m.Lanes.length→l[a]? =some x→∀b:Nat,x.testBit b=Tw m a (b:Int)
theorem Reach.get {m:Map}{i:Nat}{l:List Nat}(R:Reach m i l){a:Nat}(h:a<12): ∃x,l[a]? =some x∧x<2^32:=by
  have:=R.len
  exact ⟨l[a],lH (by omega),R.small a _ (lH (by omega))⟩
theorem OZ {m:Map}(V:ValR m){b:Int}: ∀(n a:Nat),m.Lanes.length≤a+n→Tw m a b=true→(a:Int)<b∧b<m.Lanes.length
  |0,a,hn,h=>by
   rw [BA V]at h
   have:nextOf m a= []:=by
     unfold nextOf
     rw [lJ (by omega)];rfl
   rw [this]at h
   cases h
  |n+1,a,hn,h=>by
   rw [BA V,l7]at h
   obtain ⟨k,hk,h⟩:=h
   have:=V.nextOf hk
   rcases bS _ _▸h with h|h
   ·have:=eq_of_beq h;omega
   ·have:=OZ V n k.toNat (by omega) h;omega
theorem gL {m:Map}(V:ValR m){a:Nat}{b:Int}(h:Tw m a b=true):(a:Int)<b∧b<m.Lanes.length:=OZ V m.Lanes.length a (by omega) h
theorem HU {m:Map}(V:ValR m){b:Nat}{c:Int}(h2:Tw m b c=true): ∀(n a:Nat),m.Lanes.length≤a+n→Tw m a (b:Int)=true→Tw m a c=true
  |0,a,hn,h=>by have:=gL V h;omega
  |n+1,a,hn,h=>by
   rw [BA V,l7]at h ⊢
   obtain ⟨k,hk,h⟩:=h
   have:=V.nextOf hk
   refine ⟨k,hk,?_⟩
   rcases bS _ _▸h with h|h
   ·have e:=eq_of_beq h
    subst e
    rw [wB,h2,Bool.or_true]
   ·rw [HU V h2 n k.toNat (by omega) h,Bool.or_true]
/-! ### Is a lane there? -/
noncomputable def WU (m:Map)(k:Int):Bool:=(decide (k≥0)&&decide (k<m.Lanes.length))&& (Vv m==0)
theorem isM_true {m:Map}{k:Int}:WU m k=true↔0≤k∧k<m.Lanes.length∧ValR m:=by
  unfold WU
  rw [bR,bR,bX,chkR_zero]
  simp only [bH,and_assoc,ge_iff_le]
theorem HV {m:Map}(B:BearM m)(k:Int):Lv m k=some (WU m k):=by
  unfold Lv WU
  rw [On B]
  cases (decide (k≥0)&&decide (k< (m.Lanes.length:Int)))<;>rfl
theorem CJ {m:Map}(B:BearM m)(k:Int):Pl m k=some (WU m k):=by
  unfold Pl WU
  rw [Tu B]
  cases (decide (k≥0)&&decide (k< (m.Lanes.length:Int)))<;>rfl
theorem Xu {m:Map}(B:BearM m){k:Int}(h0:0≤k)(h1:k<m.Lanes.length):Kx m k=some (Q3 m k):=by
  obtain ⟨l,e1,e2⟩:=MD B.toBear h0 h1
  unfold Kx
  rw [e1,lB,e2];rfl
noncomputable def If (m:Map)(k:Int):Int:=if WU m k then Q3 m k else 0
theorem Xv {m:Map}(B:BearM m)(k:Int):Ai m k=some (If m k):=by
  unfold Ai If
  rw [HV B,lB]
  cases h:WU m k
  ·rfl
  ·have:=isM_true.1 h
   rw [bM rfl,bT,bK,JG B.toBear this.1 this.2.1];rfl
theorem IW {m:Map}(B:BearM m)(k:Int):Oj m k=some (If m k):=by
  unfold Oj If
  rw [CJ B,lB]
  cases h:WU m k
  ·rfl
  ·have:=isM_true.1 h
   rw [bM rfl,bT,bK,Xu B this.1 this.2.1];rfl
theorem AI (l:List Int)(hl:l.length≤1000000)(k:Int):N2 l k=some (l.contains k):=by
  unfold N2 T7
  rw [Tt l (fun x=>k==x) (by omega) (fun i a h=>by
   have hi:=I7 h
   unfold Z4
   rw [K7 hi,D0 h,bJ,lB]
   cases k==a<;>rfl) (by unfold Z4;rw [J3];rfl)]
  rw [lB,Vt,List.contains_eq_any_beq]
theorem WV (l:List Int)(hl:l.length≤1000000)(k:Int):Pj l k=some (l.contains k):=by
  unfold Pj
  rw [HT l (fun x=>x==k) true (fun i a h=>by
   have hi:=I7 h
   unfold Oi
   rw [K7 hi,D0 h,bJ,lB,H8 hi (by omega)]
   cases a==k<;>rfl) (by unfold Oi;rw [J3];rfl)]
  rw [List.contains_eq_any_beq,show (fun x=>x==k)=(fun x=>k==x) from funext fun x=>by rw [Bool.beq_comm]]
  cases l.any fun x=>k==x<;>rfl
/-- What comes before a lane. -/
def Cj (m:Map)(k:Int):List Int:=Ci (fun i (l:Lane)=>if l.Next.contains k then some (i:Int)else none) 0 m.Lanes
theorem aP {m:Map}(B:BearM m)(k:Int):Ez m k=some (Cj m k):=by
  unfold Ez Cj
  have hb:=B.lanes
  rw [GW m.Lanes (fun i (l:Lane)=>if l.Next.contains k then some (i:Int)else none) id (fun i l s h hs=>by
   have hi:=I7 h
   unfold Ao
   dsimp only
   rw [K7 hi,D0 h,bJ,lB,AI _ (B.toBear.pts l (lG h)).2,lB,Ee (by simp;omega),H8 hi (by omega)]
   cases l.Next.contains k<;>rfl) (fun s=>by unfold Ao;rw [J3];rfl)]
  rfl
theorem MG {m:Map}(B:BearM m)(k:Int):Kw m k=some (Cj m k):=by
  unfold Kw Cj
  have hb:=B.lanes
  rw [GW m.Lanes (fun i (l:Lane)=>if l.Next.contains k then some (i:Int)else none) id (fun i l s h hs=>by
   have hi:=I7 h
   unfold Is
   dsimp only
   rw [K7 hi,D0 h,bJ,lB,WV _ (B.toBear.pts l (lG h)).2,lB,Ee (by simp;omega),H8 hi (by omega)]
   cases l.Next.contains k<;>rfl) (fun s=>by unfold Is;rw [J3];rfl)]
  rfl
def S9 (m:Map):List Int:=Ci (fun i (_:Lane)=>if (Cj m (i:Int)).length=0 then some (i:Int)else none) 0 m.Lanes
theorem TZ {m:Map}(B:BearM m):Mb m=some (S9 m):=by
  unfold Mb S9
  have hb:=B.lanes
  rw [GW m.Lanes (fun i (_:Lane)=>if (Cj m (i:Int)).length=0 then some (i:Int)else none) id (fun i l s h hs=>by
   have hi:=I7 h
   unfold Gx
   dsimp only
   rw [K7 hi,bJ,MG B,lB,Ee (by simp;omega),H8 hi (by omega)]
   by_cases q:(Cj m (i:Int)).length=0
   ·rw [bM q,q];rfl
   ·rw [bN q,show (((Cj m (i:Int)).length:Int)==0)=false by simp only [beq_eq_false_iff_ne];omega];rfl) (fun s=>by unfold Gx;rw [J3];rfl)]
  rfl
def Ng (z:Zone)(k:Int):Part×Bool:=match z.Parts.find? (fun p=>p.Lane_==k)with|some p=>(p,true)|none=>(⟨0,0,0,0⟩,false)
theorem kP {z:Zone}(hl:z.Parts.length≤1000000)(k:Int):Jw z k=some (Ng z k):=by
  unfold Jw J8 Ng
  rw [Tt z.Parts (fun p=>p.Lane_==k) (by omega) (fun i a h=>by
   have hi:=I7 h
   unfold M4 Ob
   rw [K7 hi,D0 h,bJ,lB,lB]
   cases a.Lane_==k<;>rfl) (by unfold M4;rw [J3];rfl),lB]
  unfold GV
  cases h:z.Parts.findIdx? (fun p=>p.Lane_==k)with
  |none=>
   have:z.Parts.find? (fun p=>p.Lane_==k)=none:=by
     rw [List.find?_eq_none]
     have:=List.findIdx?_eq_none_iff.1 h
     intro x hx;simpa using this x hx
   rw [this];rfl
  |some i=>
   obtain ⟨hi,h1,h2⟩:=List.findIdx?_eq_some_iff_getElem.1 h
   have:z.Parts.find? (fun p=>p.Lane_==k)=some z.Parts[i]:=by
     rw [List.find?_eq_some_iff_getElem]
     exact ⟨h1,i,hi,rfl,fun j hj=>by simpa using h2 j hj⟩
   rw [this]
   dsimp only
   rw [show decide ((i:Int)<0)=false from bG (by omega),bK,fF hi];rfl
structure ZoneOK (m:Map)(z:Zone):Prop where
  two:2≤z.Parts.length
  six:z.Parts.length≤6
  sig:0≤z.Signal_∧z.Signal_≤m.Signals.length
  rise:Cg m.Lanes.length 0 (z.Parts.map (·.Lane_))=true
  part: ∀p∈z.Parts,0≤p.From∧p.From<p.To∧p.To≤Q3 m p.Lane_∧0≤p.Rank∧p.Rank≤100
theorem WW {m:Map}{i:Nat}{z:Zone}(h:zoneE m i z=none):ZoneOK m z:=by
  unfold zoneE at h
  split at h
  ·cases h
  ·rename_i h1
   split at h
   ·cases h
   ·rename_i h2
    split at h
    ·cases h
    ·rename_i h3
     split at h
     ·cases h
     ·rename_i h4
      split at h
      ·cases h
      ·rename_i h5
       refine ⟨by omega,by omega,by omega,by simpa using h4,fun p hp=> ?_⟩
       have:=List.any_eq_false.1 (bW.2 h5) p hp
       simp only [Uo,bS,bH,not_or,Int.not_lt,Int.not_le,ge_iff_le,gt_iff_lt]at this
       omega
theorem ValR.zoneOK {m:Map}(V:ValR m){z:Zone}(hz:z∈m.Zones):ZoneOK m z:=by
  obtain ⟨i,hi,rfl⟩:=List.mem_iff_getElem.1 hz
  have:=firstE_none.1 V.zoneE i _ (lH hi)
  exact WW this
theorem ZoneOK.lane {m:Map}{z:Zone}(O:ZoneOK m z){p:Part}(hp:p∈z.Parts):0≤p.Lane_∧p.Lane_<m.Lanes.length:=Lf O.rise p.Lane_ (List.mem_map.2 ⟨p,hp,rfl⟩)
theorem YP {m:Map}{k:Int}(h0:0≤k)(h1:k<m.Zones.length): ∃z,m.Zones[k.toNat]? =some z∧C3 m.Zones k=some z:=by
  have hlt:k.toNat<m.Zones.length:=by omega
  refine ⟨m.Zones[k.toNat],lH hlt,?_⟩
  unfold C3
  rw [bM h0,lH hlt]
theorem gM:Hl=some true:=law04_awake_le _ (by decide+kernel)
theorem Ig (n:Int){m:Int}(hm:0<m):0≤n % m∧n % m<m:=⟨wN n (by omega),wO n hm⟩
theorem PA {n m:Int}(hm:0<m):n % m=if n.tmod m<0 then n.tmod m+m else n.tmod m:=by
  have a:=wN n (show m≠0 by omega)
  have b:=wO n hm
  rw [Int.tmod_eq_emod]
  by_cases q:0≤n∨m ∣ n
  ·rw [bM q,bN (by omega)];omega
  ·rw [bN q]
   have:n % m≠0:=fun e=>q (.inr (Int.dvd_of_emod_eq_zero e))
   rw [bM (by omega)];omega
theorem Tx {n m:Int}(hm:0<m)(hm2:m≤9223372036854775807):Ru n m=some (n % m):=by
  have h1:=PA (n:=n) hm
  have a:=Ig n hm
  unfold Ru Su
  rw [bN (by omega),lB]
  by_cases q:n.tmod m<0
  ·rw [bM q]at h1
   rw [bF q,bJ,F8 (by omega),← h1]
  ·rw [bN q]at h1
   rw [bG q,bK,← h1]
theorem Oo {n m:Int}(hm:0<m)(hm2:m≤9223372036854775807):Lb n m=some (n % m):=by
  have h1:=PA (n:=n) hm
  have a:=Ig n hm
  unfold Lb Su
  rw [bN (by omega),lB]
  by_cases q:n.tmod m<0
  ·rw [bM q]at h1
   rw [bF q,bJ,F8 (by omega),← h1]
  ·rw [bN q]at h1
   rw [bG q,bK,← h1]
def RA (kind lim:Int)(next:List Int)(a b c d:Int):Lane:=⟨kind,⟨[⟨a,b⟩,⟨c,d⟩]⟩,if kind=3 then 500 else 1500,lim,next⟩
theorem kQ (kind lim:Int)(next:List Int)(a b c d:Int):U1 kind lim next [a,b,c,d]=some (RA kind lim next a b c d):=by
  unfold U1 RA
  rw [J9 (s':=(2,[⟨a,b⟩])) rfl,J9 (s':=(4,[⟨a,b⟩,⟨c,d⟩])) rfl,D2 (t:= [⟨a,b⟩,⟨c,d⟩]) rfl,lB]
  by_cases h:kind=3
  ·rw [bM h,h];rfl
  ·rw [bN h,show (kind==3)=false by simpa using h];rfl
def pC (off a b:Int):Signal:=⟨off,[⟨12,[a]⟩,⟨5,[]⟩,⟨9,[b]⟩,⟨4,[]⟩]⟩
/-- The numbers of which a map of the kit is made. -/
structure Par where
  lim:Int
  r:Int
  o:Int
  o':Int
  ver:Int
  wk:List Work
structure ParOK (p:Par):Prop where
  lim:p.lim=1500∨p.lim=600∨p.lim=1000∨p.lim=300
  r:p.r=0∨p.r=1
  o:0≤p.o∧p.o<31
  o':0≤p.o'∧p.o'<31
  ver:0≤p.ver∧p.ver<5
  wk:p.wk= []∨∃b l,0≤b∧b<40∧0≤l∧l≤400∧p.wk= [⟨0,10000,15000,b,b+20,l⟩]
def Mu (k:Nat)(lim:Int):List Lane:=match k with
  |0=> [RA 1 lim [] 0 0 60000 0]
  |1|2=> [RA 1 lim [] 0 0 50000 0,RA 1 1500 [] 30000 (-20000) 30000 20000]
  |3=> [RA 1 lim [1,2] 0 0 30000 0,RA 1 1500 [] 30000 0 60000 0,RA 1 800 [] 30000 0 54000 10000]
  |4=> [RA 1 lim [2] 0 0 30000 0,RA 1 1500 [2] 6000 (-10000) 30000 0,RA 1 1500 [] 30000 0 60000 0]
  |5=> [RA 1 lim [1] 0 0 20000 0,RA 1 lim [] 20000 0 50000 0,RA 3 200 [] 35000 (-8000) 35000 8000]
  |_=> [RA 1 lim [1,2] 0 0 20000 0,RA 1 1500 [] 20000 0 50000 0,RA 1 1000 [] 20000 0 44000 10000,RA 2 700 [] 36000 (-12000) 36000 18000]
def DL (k:Nat)(r:Int):List Zone:=match k with
  |1=> [⟨[⟨0,28000,32000,r⟩,⟨1,18000,22000,2 - 2*r⟩],0⟩]
  |2=> [⟨[⟨0,28000,32000,r⟩,⟨1,18000,22000,2 - 2*r⟩],1⟩]
  |4=> [⟨[⟨0,25000,30000,1⟩,⟨1,20000,26000,0⟩,⟨2,0,5000,0⟩],0⟩]
  |5=> [⟨[⟨1,14000,16000,0⟩,⟨2,6000,10000,3⟩],0⟩]
  |6=> [⟨[⟨1,14000,18000,1⟩,⟨3,10000,14000,0⟩],0⟩,⟨[⟨2,14000,21000,1⟩,⟨3,14500,23000,0⟩],0⟩]
  |7=> [⟨[⟨1,14000,18000,1⟩,⟨3,10000,14000,0⟩],1⟩,⟨[⟨2,14000,21000,1⟩,⟨3,14500,23000,0⟩],2⟩]
  |_=> []
def Vw (k:Nat)(o o':Int):List Signal:=match k with
  |2=> [pC o 0 1]
  |7=> [pC o 1 3,pC o' 2 3]
  |_=> []
def FN (k:Nat)(p:Par):Map:=⟨p.ver,Mu k p.lim,DL k p.r,Vw k p.o p.o',p.wk⟩
theorem WX (n:Int): ∃k p,k<8∧ParOK p∧AZ n=some (FN k p):=by
  obtain ⟨h0,h1⟩:=Ig n (show (0:Int)<16777216 by decide)
  unfold AZ
  rw [Tx (by decide) (by decide),lB]
  generalize n % 16777216=v at h0 h1
  have t: ∀m:Int,0<m→v.tdiv m=v / m:=fun m hm=>by rw [wL h0]
  have u: ∀x m:Int,0≤x→x.tmod m=x % m:=fun x m hx=>by rw [wM hx]
  have d: ∀m:Int,0<m→0≤v / m∧v / m<16777216:=fun m hm=>⟨Int.ediv_nonneg h0 (by omega),Int.lt_of_le_of_lt (Int.ediv_le_self m h0) h1⟩
  have W: ∀m:Int,0<m→D8 (v / m)=v / m:=fun m hm=>F8 (by have:=d m hm;omega)
  rw [t 7 (by decide),t 28 (by decide),t 56 (by decide),t 1736 (by decide),t 5208 (by decide),t 208320 (by decide)]
  rw [W 7 (by decide),W 28 (by decide),W 56 (by decide),W 1736 (by decide),W 5208 (by decide),W 208320 (by decide)]
  rw [u (v / 7) _ (d 7 (by decide)).1,u (v / 28) 2 (d 28 (by decide)).1,u (v / 28) 31 (d 28 (by decide)).1,u (v / 56) 31 (d 56 (by decide)).1,u (v / 56) 17 (d 56 (by decide)).1,u (v / 1736) _ (d 1736 (by decide)).1,u (v / 5208) _ (d 5208 (by decide)).1,u (v / 208320) _ (d 208320 (by decide)).1,u v _ h0,u (v / 28) 5 (d 28 (by decide)).1]
  have b1:=Ig (v / 7) (show (0:Int)<4 by decide)
  have b2:=Ig (v / 28) (show (0:Int)<2 by decide)
  have b3:=Ig (v / 28) (show (0:Int)<31 by decide)
  have b4:=Ig (v / 56) (show (0:Int)<31 by decide)
  have b5:=Ig (v / 56) (show (0:Int)<17 by decide)
  have b6:=Ig (v / 5208) (show (0:Int)<40 by decide)
  have b7:=Ig (v / 208320) (show (0:Int)<3 by decide)
  have b8:=Ig v (show (0:Int)<7 by decide)
  have b9:=Ig (v / 28) (show (0:Int)<5 by decide)
  generalize v / 7 % 4=q1 at b1
  generalize v / 28 % 2=q2 at b2
  generalize v / 28 % 31=q3 at b3
  generalize v / 56 % 31=q4 at b4
  generalize v / 56 % 17=q5 at b5
  generalize v / 5208 % 40=q6 at b6
  generalize v / 208320 % 3=q7 at b7
  generalize v % 7=q8 at b8
  generalize v / 28 % 5=q9 at b9
  have e1: ∃lim:Int,C3 ([1500,600,1000,300]:List Int) q1=some lim∧(lim=1500∨lim=600∨lim=1000∨lim=300):=by
    rcases (show q1=0∨q1=1∨q1=2∨q1=3 by omega)with rfl|rfl|rfl|rfl
    ·exact ⟨1500,rfl,by decide⟩
    ·exact ⟨600,rfl,by decide⟩
    ·exact ⟨1000,rfl,by decide⟩
    ·exact ⟨300,rfl,by decide⟩
  obtain ⟨lim,e1,hlim⟩:=e1
  rw [e1,lB]
  have ew: ∀(L:List Lane) (Z:List Zone) (S:List Signal),∃wk,(wk= []∨∃b l,0≤b∧b<40∧0≤l∧l≤400∧wk= [⟨0,10000,15000,b,b+20,l⟩])∧
   (cond (v / 1736 % 3==1) (some (Map.mk q9 L Z S [(Work.mk 0 10000 15000 q6 (D8 (q6+20)) (D8 (q7*200)))])) (some (Map.mk q9 L Z S [])))=some ⟨q9,L,Z,S,wk⟩:=by
    intro L Z S
    cases v / 1736 % 3==1
    ·exact ⟨[], .inl rfl,rfl⟩
    ·exact ⟨[⟨0,10000,15000,q6,q6+20,q7*200⟩], .inr ⟨q6,q7*200,by omega,by omega,by omega,by omega,rfl⟩,by rw [F8 (by omega),F8 (by omega)];rfl⟩
  have er:D8 (2 - D8 (2*q2))=2 - 2*q2:=by rw [F8 (n:=2*q2) (by omega),F8 (by omega)]
  rw [er]
  simp only [kQ,lB]
  have fin: ∀(k:Nat) (o o':Int) (L:List Lane) (Z:List Zone) (S:List Signal),k<8→0≤o∧o<31→0≤o'∧o'<31→L=Mu k lim→Z=DL k q2→S=Vw k o o'→∃k p,k<8∧ParOK p∧(cond (v / 1736 % 3==1) (some (Map.mk q9 L Z S [(Work.mk 0 10000 15000 q6 (D8 (q6+20)) (D8 (q7*200)))])) (some (Map.mk q9 L Z S [])))=some (FN k p):=by
    intro k o o' L Z S hk h1 h2 e1 e2 e3
    obtain ⟨wk,w1,w2⟩:=ew L Z S
    subst e1 e2 e3
    exact ⟨k,⟨lim,q2,o,o',q9,wk⟩,hk,⟨hlim,by dsimp only;omega,h1,h2,b9,w1⟩,w2⟩
  rcases (show q8=0∨q8=1∨q8=2∨q8=3∨q8=4∨q8=5∨q8=6 by omega)with rfl|rfl|rfl|rfl|rfl|rfl|rfl
  ·exact fin 0 0 0 _ _ _ (by decide) (by decide) (by decide) rfl rfl rfl
  ·exact fin 1 0 0 _ _ _ (by decide) (by decide) (by decide) rfl rfl rfl
  ·exact fin 2 q3 0 _ _ _ (by decide) b3 (by decide) rfl rfl rfl
  ·exact fin 3 0 0 _ _ _ (by decide) (by decide) (by decide) rfl rfl rfl
  ·exact fin 4 0 0 _ _ _ (by decide) (by decide) (by decide) rfl rfl rfl
  ·exact fin 5 0 0 _ _ _ (by decide) (by decide) (by decide) rfl rfl rfl
  ·rcases (show q2=0∨q2=1 by omega)with rfl|rfl
   ·exact fin 6 0 0 _ _ _ (by decide) (by decide) (by decide) rfl rfl rfl
   ·exact fin 7 q4 q5 _ _ _ (by decide) b4 (by omega) rfl rfl rfl
theorem aQ:((List.range 8).all fun k=>([1500,600,1000,300]:List Int).all fun lim=>([0,1]:List Int).all fun r=>(@Bu V2) (FN k ⟨lim,r,0,0,0,[]⟩)==some 0)=true:=by decide+kernel
theorem UA (k:Nat)(lim:Int):(Mu k lim).length≤4∧∀l∈Mu k lim,l.Curve_.Pts.length=2∧l.Next.length≤2:=by
  unfold Mu
  split<;>simp [RA]
theorem HW (k:Nat)(r:Int):(DL k r).length≤2∧∀z∈DL k r,z.Parts.length≤3:=by
  unfold DL
  split<;>simp
theorem WY (k:Nat)(o o':Int):(Vw k o o').length≤2∧∀s∈Vw k o o',s.Phases.length=4∧∀p∈s.Phases,p.Green.length≤1:=by
  unfold Vw
  split<;>simp [pC]
theorem YQ {m:Map}{k:Nat}{lim r o o':Int}(h1:m.Lanes=Mu k lim)(h2:m.Zones=DL k r)(h3:m.Signals=Vw k o o')(h4:m.Works.length≤1):BearM m:=by
  obtain ⟨a1,a2⟩:=UA k lim
  obtain ⟨b1,b2⟩:=HW k r
  obtain ⟨c1,c2⟩:=WY k o o'
  refine ⟨⟨by rw [h1];omega,fun l hl=> ?_⟩,⟨by rw [h3];omega,fun s hs=>⟨?_,fun p hp=> ?_⟩⟩,⟨by rw [h2];omega,fun z hz=> ?_⟩,⟨by omega⟩⟩
  ·rw [h1]at hl;have:=a2 l hl;omega
  ·rw [h3]at hs;have:=(c2 s hs).1;omega
  ·rw [h3]at hs;have:=(c2 s hs).2 p hp;omega
  ·rw [h2]at hz;have:=b2 z hz;omega
theorem ParOK.wk1 {p:Par}(h:ParOK p):p.wk.length≤1:=by
  rcases h.wk with e|⟨b,l,_,_,_,_,e⟩<;>rw [e]<;>simp
theorem gN {k:Nat}{p:Par}(h:ParOK p):BearM (FN k p):=YQ rfl rfl rfl h.wk1
theorem pX {k:Nat}{p:Par}(hk:k<8)(h:ParOK p):ValR (FN k ⟨p.lim,p.r,0,0,0,[]⟩):=by
  have h1:=l6.1 aQ k (List.mem_range.2 hk)
  have h2:=l6.1 h1 p.lim (by have:=h.lim;simp;omega)
  have h3:=l6.1 h2 p.r (by have:=h.r;simp;omega)
  have h4:=roads_Check_le _ _ (eq_of_beq h3)
  have h5:=On (m:=FN k ⟨p.lim,p.r,0,0,0,[]⟩) (YQ rfl rfl rfl (wE 1))
  rw [h4]at h5
  exact chkR_zero.1 (lD h5).symm
/-- Another version, other offsets, other works. -/
theorem ValR.change {L:List Lane}{Z:List Zone}{S S':List Signal}{W W':List Work}{v v':Int}(V:ValR ⟨v,L,Z,S,W⟩)(hv:0≤v'∧v'≤1099511627776)(hl:S'.length=S.length)(hs: ∀s∈S',World.signalE ⟨v,L,Z,S,W⟩ 0 s=none)(hw:W'.length≤8)(hw': ∀w∈W',World.workE ⟨v,L,Z,S,W⟩ 0 w=none):ValR ⟨v',L,Z,S',W'⟩:=by
  refine ⟨hv,V.pos,V.lanes,V.zones,by show S'.length≤4;rw [hl];exact V.signals,hw,V.laneE,V.nextE,?_,?_,?_⟩
  ·rw [firstE_none]
   intro j a ha
   exact hs a (lG ha)
  ·have:=V.zoneE
   rw [firstE_none]at this ⊢
   intro j a ha
   have:=this j a ha
   unfold World.zoneE at this ⊢
   dsimp only at this ⊢
   rw [hl]
   exact this
  ·rw [firstE_none]
   intro j a ha
   exact hw' a (lG ha)
theorem aR (k:Nat)(o o' a a':Int):(Vw k o o').length=(Vw k a a').length:=by unfold Vw;split<;>rfl
theorem gO {k:Nat}{o o':Int}(h:0≤o∧o<31)(h':0≤o'∧o'<31){m:Map}(hm:m.Lanes.length=(Mu k 0).length): ∀s∈Vw k o o',signalE m 0 s=none:=by
  have key: ∀(off a b:Int),0≤off∧off<31→0≤a∧a<m.Lanes.length→0≤b∧b<m.Lanes.length→signalE m 0 (pC off a b)=none:=by
    intro off a b h1 h2 h3
    unfold signalE pC
    simp only [lL,lN]
    rw [bN (by decide),bN (by decide),bN (by simp [Vg];omega),bN (by simp [Vg]),bN]
    simp only [List.any_cons,List.any_nil,Cg,bP,Bool.or_false,bT,bV,bS,Bool.not_eq_true',not_or,Bool.not_eq_false,bR,bH]
    omega
  intro s hs
  unfold Vw at hs
  split at hs
  ·rw [show (Mu 2 0).length=2 from rfl]at hm
   simp only [bE]at hs
   subst hs
   exact key _ _ _ h (by omega) (by omega)
  ·rw [show (Mu 7 0).length=4 from rfl]at hm
   simp only [lU,List.not_mem_nil,or_false]at hs
   rcases hs with rfl|rfl
   ·exact key _ _ _ h (by omega) (by omega)
   ·exact key _ _ _ h' (by omega) (by omega)
  ·cases hs
theorem WZ (k:Nat)(lim:Int):(Mu k lim).length=(Mu k 0).length:=by unfold Mu;split<;>rfl
theorem BB (c:Int)(h:(@Cz V2) ⟨[⟨0,0⟩,⟨c,0⟩]⟩=some c):Rx ⟨[⟨0,0⟩,⟨c,0⟩]⟩=c:=by
  have h1:=curve_Length_le _ _ h
  rw [Xp _ (by simp)]at h1
  exact lD h1
/-- The first lane of a map of the kit: a road, long enough. -/
theorem HX (k:Nat)(lim:Int): ∃l,(Mu k lim)[0]? =some l∧l.Kind=1∧l.Limit=lim∧20000≤Rx l.Curve_∧Rx l.Curve_≤60000:=by
  have e6:=BB 60000 (by decide+kernel)
  have e5:=BB 50000 (by decide+kernel)
  have e3:=BB 30000 (by decide+kernel)
  have e2:=BB 20000 (by decide+kernel)
  unfold Mu
  split
  ·exact ⟨_,rfl,rfl,rfl,by show 20000≤Rx ⟨[⟨0,0⟩,⟨60000,0⟩]⟩∧Rx ⟨[⟨0,0⟩,⟨60000,0⟩]⟩≤60000;rw [e6];decide⟩
  ·exact ⟨_,rfl,rfl,rfl,by show 20000≤Rx ⟨[⟨0,0⟩,⟨50000,0⟩]⟩∧Rx ⟨[⟨0,0⟩,⟨50000,0⟩]⟩≤60000;rw [e5];decide⟩
  ·exact ⟨_,rfl,rfl,rfl,by show 20000≤Rx ⟨[⟨0,0⟩,⟨50000,0⟩]⟩∧Rx ⟨[⟨0,0⟩,⟨50000,0⟩]⟩≤60000;rw [e5];decide⟩
  ·exact ⟨_,rfl,rfl,rfl,by show 20000≤Rx ⟨[⟨0,0⟩,⟨30000,0⟩]⟩∧Rx ⟨[⟨0,0⟩,⟨30000,0⟩]⟩≤60000;rw [e3];decide⟩
  ·exact ⟨_,rfl,rfl,rfl,by show 20000≤Rx ⟨[⟨0,0⟩,⟨30000,0⟩]⟩∧Rx ⟨[⟨0,0⟩,⟨30000,0⟩]⟩≤60000;rw [e3];decide⟩
  ·exact ⟨_,rfl,rfl,rfl,by show 20000≤Rx ⟨[⟨0,0⟩,⟨20000,0⟩]⟩∧Rx ⟨[⟨0,0⟩,⟨20000,0⟩]⟩≤60000;rw [e2];decide⟩
  ·exact ⟨_,rfl,rfl,rfl,by show 20000≤Rx ⟨[⟨0,0⟩,⟨20000,0⟩]⟩∧Rx ⟨[⟨0,0⟩,⟨20000,0⟩]⟩≤60000;rw [e2];decide⟩
theorem pY {m:Map}{l:Lane}(hl:m.Lanes[0]? =some l)(hk:l.Kind=1){w:Work}(h:w.Lane_=0∧0≤w.From∧w.From≤w.To∧w.To≤Rx l.Curve_∧0≤w.Begin∧w.Begin<w.End∧w.End≤1099511627776∧0≤w.Limit∧w.Limit≤2000):workE m 0 w=none:=by
  obtain ⟨h1,h2,h3,h4,h5,h6,h7,h8,h9⟩:=h
  have hlen:=I7 hl
  unfold workE Q3
  rw [h1,show ((0:Int).toNat)=0 from rfl,hl,bN (by omega),bN]
  simp only [lF,Option.getD_some,Option.get!_some,hk,Vg,Gz,if_true,bS,bH,Bool.not_eq_true',not_or,Bool.not_eq_false,bR]
  omega
/-- A map of the kit is valid, with such works. -/
theorem gP {k:Nat}{p:Par}(hk:k<8)(h:ParOK p){W:List Work}(hw:W.length≤8)(hW: ∀w∈W,w.Lane_=0∧0≤w.From∧w.From≤w.To∧w.To≤Q3 (FN k p) 0∧0≤w.Begin∧w.Begin<w.End∧w.End≤1099511627776∧0≤w.Limit∧w.Limit≤2000):ValR ⟨p.ver,Mu k p.lim,DL k p.r,Vw k p.o p.o',W⟩:=by
  have V:=pX hk h
  obtain ⟨l,l1,l2,l3,l4,l5⟩:=HX k p.lim
  have hv:=h.ver
  refine ValR.change (v:=0) (S:=Vw k 0 0) (W:= []) V (by omega) (aR k _ _ _ _) (fun s hs=>gO h.o h.o' (by exact WZ k p.lim) s hs) hw (fun w hwm=> ?_)
  obtain ⟨a1,a2,a3,a4,a5,a6,a7,a8,a9⟩:=hW w hwm
  refine pY (l:=l) l1 l2 ⟨a1,a2,a3,?_,a5,a6,a7,a8,a9⟩
  have:Q3 (FN k p) 0=Rx l.Curve_:=by
    unfold Q3 FN
    dsimp only
    rw [show ((0:Int).toNat)=0 from rfl,l1];rfl
  omega
theorem aS (k:Nat)(p:Par):20000≤Q3 (FN k p) 0∧Q3 (FN k p) 0≤60000:=by
  obtain ⟨l,l1,l2,l3,l4,l5⟩:=HX k p.lim
  unfold Q3 FN
  dsimp only
  rw [show ((0:Int).toNat)=0 from rfl,l1]
  exact ⟨l4,l5⟩
theorem kR {k:Nat}{p:Par}(hk:k<8)(h:ParOK p):ValR (FN k p):=by
  have hl:=aS k p
  refine gP hk h (wH h.wk1 (by decide)) (fun w hw=> ?_)
  rcases h.wk with e|⟨b,l,h1,h2,h3,h4,e⟩
  ·rw [e]at hw;cases hw
  ·rw [e]at hw
   simp only [bE]at hw
   subst hw
   dsimp only
   omega
/-! ### Limits -/
end Go.Abs.World
namespace Go.Abs
theorem Dq {α β:Type}{g:Nat→α→Option β}{x:β}: ∀{l:List α} {i:Nat},x∈Ci g i l↔∃j a,l[j]? =some a∧g (i+j) a=some x
  | [],i=>by simp [Ci]
  |a::r,i=>by
   unfold Ci
   have ih:=Dq (g:=g) (x:=x) (l:=r) (i:=i+1)
   have sh:(∃j b,(a::r)[j]? =some b∧g (i+j) b=some x)↔g i a=some x∨∃j b,r[j]? =some b∧g (i+1+j) b=some x:=by
     constructor
     ·rintro ⟨j,b,h1,h2⟩
      cases j with
      |zero=>simp at h1;subst h1;exact .inl h2
      |succ j=>exact .inr ⟨j,b,by simpa using h1,by rwa [show i+1+j=i+ (j+1) by omega]⟩
     ·rintro (h|⟨j,b,h1,h2⟩)
      ·exact ⟨0,a,rfl,h⟩
      ·exact ⟨j+1,b,by simpa using h1,by rwa [show i+ (j+1)=i+1+j by omega]⟩
   rw [sh,← ih]
   cases h:g i a with
   |none=>simp
   |some b=>simp [eq_comm]
end Go.Abs
namespace Go.Abs.World
open Go Go.Abs
theorem mem_before {m:Map}{k x:Int}:x∈Cj m k↔∃(i:Nat) (l:Lane),m.Lanes[i]? =some l∧k∈l.Next∧x=(i:Int):=by
  unfold Cj
  rw [Dq]
  refine exists_congr fun i=>exists_congr fun l=>and_congr_right fun _=> ?_
  rw [wG]
  by_cases h:l.Next.contains k=true
  ·rw [bM h]
   simp only [Option.some.injEq]
   exact ⟨fun e=>⟨by simpa using h,e.symm⟩,fun e=>e.2.symm⟩
  ·rw [bN h]
   simp only [reduceCtorEq,false_iff,not_and]
   intro hk
   exact absurd (by simpa using hk) h
theorem mem_origins {m:Map}{x:Int}:x∈S9 m↔0≤x∧x<m.Lanes.length∧Cj m x= []:=by
  unfold S9
  rw [Dq]
  constructor
  ·rintro ⟨i,l,h1,h2⟩
   have:=I7 h1
   split at h2
   ·rename_i h
    cases h2
    rw [wG]at h ⊢
    exact ⟨by omega,by omega,l8 h⟩
   ·cases h2
  ·rintro ⟨h0,h1,h2⟩
   have hlt:x.toNat<m.Lanes.length:=by omega
   refine ⟨x.toNat,m.Lanes[x.toNat],lH hlt,?_⟩
   rw [wG,show ((x.toNat:Nat):Int)=x by omega,h2];rfl
theorem RB {m:Map}(V:ValR m){p k:Int}(h:p∈Cj m k):0≤p∧p<k∧k<m.Lanes.length∧Tw m p.toNat k=true:=by
  obtain ⟨i,l,h1,h2,rfl⟩:=mem_before.1 h
  have hk:=V.next h1 h2
  refine ⟨by omega,hk.1,hk.2,?_⟩
  rw [BA V,l7,wB]
  refine ⟨k,by unfold nextOf;rw [h1];exact h2,by simp⟩
/-- Each lane is a source, or a source leads to it. -/
theorem PB {m:Map}(V:ValR m): ∀(n:Nat) (a:Int),0≤a→a<m.Lanes.length→a<n→∃s∈S9 m,s=a∨Tw m s.toNat a=true
  |0,a,h0,h1,h2=>by omega
  |n+1,a,h0,h1,h2=>by
   cases hb:Cj m a with
   |nil=>exact ⟨a,mem_origins.2 ⟨h0,h1,hb⟩, .inl rfl⟩
   |cons p r=>
    obtain ⟨p0,p1,p2,p3⟩:=RB V (show p∈Cj m a by rw [hb];simp)
    obtain ⟨s,s1,s2⟩:=PB V n p p0 (by omega) (by omega)
    refine ⟨s,s1, .inr ?_⟩
    rcases s2 with rfl|s2
    ·exact p3
    ·have e:((p.toNat:Nat):Int)=p:=by omega
     exact HU V (b:=p.toNat) p3 m.Lanes.length s.toNat (by omega) (by rw [e];exact s2)
/-! ### How long lanes are -/
theorem gQ: ∀(l:List Int) (s:Int),(∀x∈l,0≤x∧x≤1048576)→0≤s→s+1048576*l.length≤9000000000000000000→s≤Wy s l∧Wy s l≤s+1048576*l.length
  | [],s,_,_,_=>by simp [Wy]
  |a::r,s,h,h0,h1=>by
   have ha:=h a (by simp)
   simp only [lL]at h1 ⊢
   rw [Wy,F8 (by omega)]
   have:=gQ r (s+a) (fun x hx=>h x (by simp [hx])) (by omega) (by omega)
   omega
theorem gR: ∀{l:List Spot} {last:Option CurveVector},Good last l→∀x∈Z9 l,1000≤x∧x≤1048576:=by
  intro l last h
  induction h with
  |one last p=>intro x hx;simp [Z9]at hx
  |cons last p q r h1 h2 h3 h4 h ih=>
   intro x hx
   rw [Sj,lU]at hx
   rcases hx with rfl|hx
   ·exact ⟨h2,h3⟩
   ·exact ih x hx
theorem kS {c:Curve}(h:Ay c.Pts=0):1000≤Rx c∧Rx c≤16777216:=by
  have V:=checkM_zero.1 h
  unfold Rx Eg
  rw [bM h]
  have h16:=V.most
  have h2:=V.two
  have hm:=gR V.good
  cases hp:c.Pts with
  |nil=>rw [hp]at h2;simp at h2
  |cons p r=>
   rw [hp]at hm h16 h2
   cases r with
   |nil=>simp at h2
   |cons q r=>
    simp only [lL]at h16
    rw [Sj]at hm ⊢
    have ha:=hm _ (List.mem_cons_self)
    have hl:=Ho r q
    rw [Wy,F8 (by omega),Int.zero_add]
    have:=gQ (Z9 (q::r)) (rt (M7 (N6 p q) (N6 p q))) (fun x hx=>by have:=hm x (List.mem_cons_of_mem _ hx);omega) (by omega) (by rw [hl];omega)
    rw [hl]at this
    omega
theorem ValR.long {m:Map}(V:ValR m){k:Int}(h0:0≤k)(h1:k<m.Lanes.length):1000≤Q3 m k∧Q3 m k≤16777216:=by
  obtain ⟨l,e1,e2⟩:=Up h0 h1
  unfold Q3
  rw [e1]
  exact kS (V.laneOK e1).curve
/-! ### Routes -/
def Lm (m:Map):Int→List Int→Bool
  |_,[]=>true
  |a,b::r=>(nextOf m a.toNat).contains b&&Lm m b r
noncomputable def P2 (m:Map)(r:List Int):Int:=
  if Vv m≠0 then Vv m
  else match r with
    | []=>13
    |a::t=>if 7<t.length∨a<0∨(m.Lanes.length:Int)≤a∨Cj m a≠ []∨Lm m a t=false then 13 else 0
/-- What a route is. -/
structure RouteOK (m:Map)(a:Int)(t:List Int):Prop where
  val:ValR m
  most:t.length≤7
  first:0≤a∧a<m.Lanes.length
  source:Cj m a= []
  chain:Lm m a t=true
theorem chkRoute_zero {m:Map}{r:List Int}:P2 m r=0↔∃a t,r=a::t∧RouteOK m a t:=by
  unfold P2
  constructor
  ·intro h
   split at h
   ·exact absurd h (by assumption)
   ·rename_i h1
    have V:=chkR_zero.1 (Decidable.not_not.1 h1)
    split at h
    ·cases h
    ·rename_i a t
     split at h
     ·cases h
     ·rename_i h2
      exact ⟨a,t,rfl,V,by omega,by omega,Decidable.not_not.1 fun q=>h2 (.inr (.inr (.inr (.inl q)))),by
        cases q:Lm m a t with
        |true=>rfl
        |false=>exact absurd (.inr (.inr (.inr (.inr q)))) h2⟩
  ·rintro ⟨a,t,rfl,V,h1,h2,h3,h4⟩
   rw [bN (by rw [chkR_zero.2 V];simp)]
   dsimp only
   rw [bN]
   rintro (q|q|q|q|q)
   ·omega
   ·omega
   ·omega
   ·exact q h3
   ·rw [h4]at q;cases q
theorem PC {m:Map}(V:ValR m): ∀{t:List Int} {a:Int},Lm m a t=true→0≤a→∀x∈t,a<x∧x<m.Lanes.length
  | [],_,_,_,x,hx=>by cases hx
  |b::r,a,h,h0,x,hx=>by
   rw [Lm,bR,List.contains_iff_mem]at h
   have hb:=V.nextOf h.1
   rcases lU.1 hx with rfl|hx
   ·omega
   ·have:=PC V h.2 (by omega) x hx;omega
theorem RouteOK.mem {m:Map}{a:Int}{t:List Int}(R:RouteOK m a t){x:Int}(hx:x∈a::t):0≤x∧x<m.Lanes.length:=by
  have:=R.first
  rcases lU.1 hx with rfl|hx
  ·exact this
  ·have:=PC R.val R.chain (by omega) x hx;omega
theorem XA {m:Map}(B:BearM m)(V:ValR m)(l:List Int)(hl:l.length≤1000000): ∀(r:List Int) (i:Nat) (a:Int),l.drop i=r→i≤l.length→0≤a→a<m.Lanes.length→loop (Q0 m l) (a,(i:Int))=some (if Lm m a r=true then .inl ()else .inr 13):=by
  intro r
  induction r with
  |nil=>
   intro i a hi hil h0 h1
   have:=O5 hi
   obtain rfl:i=l.length:=by omega
   refine D2 ?_
   unfold Q0
   rw [J3];rfl
  |cons b r ih=>
   intro i a hi hil h0 h1
   have hlt:=M9 hi
   have hb:=W7 hi
   obtain ⟨ln,e1,e2⟩:=Up h0 h1
   have hs:Q0 m l (a,(i:Int))=some (if ln.Next.contains b=true then .go (b,((i+1:Nat):Int))else .out (.inr 13)):=by
     unfold Q0
     dsimp only
     rw [K7 hlt,D0 hb,bJ,lB,e2,lB,AI _ (B.toBear.pts _ (lG e1)).2,lB,H8 hlt (by omega)]
     cases ln.Next.contains b<;>rfl
   have hn:nextOf m a.toNat=ln.Next:=by unfold nextOf;rw [e1];rfl
   rw [Lm,hn]
   cases q:ln.Next.contains b
   ·rw [q]at hs;rw [D2 hs];rfl
   ·rw [q]at hs
    have hbm:=V.next e1 (List.contains_iff_mem.1 q)
    rw [J9 hs,ih (i+1) b (K0 hi) (by omega) (by omega) (by omega),bO]
theorem CK {m:Map}(B:BearM m)(r:List Int)(hr:r.length≤1000000):W3 m r=some (P2 m r):=by
  unfold W3 P2
  rw [On B,lB]
  by_cases q:Vv m=0
  ·have V:=chkR_zero.1 q
   rw [bN (by simpa using q),show (Vv m !=0)=false by simpa using q,bK]
   cases r with
   |nil=>rfl
   |cons a t=>
    dsimp only
    simp only [lL]at hr ⊢
    by_cases h8:7<t.length
    ·rw [bM (.inl h8),show ((((t.length+1:Nat):Int)==0)||(decide (((t.length+1:Nat):Int)>8)))=true by simp;omega];rfl
    ·rw [show ((((t.length+1:Nat):Int)==0)||(decide (((t.length+1:Nat):Int)>8)))=false by simp;omega]
     rw [show C3 (a::t) 0=some a from rfl]
     simp only [bU,bJ,lB,bV]
     by_cases h0:a<0
     ·rw [bM (.inr (.inl h0)),bF h0];rfl
     ·rw [bG h0]
      simp only [bU,bJ,lB,bV]
      by_cases h1:(m.Lanes.length:Int)≤a
      ·rw [bM (.inr (.inr (.inl h1))),show decide (a≥(m.Lanes.length:Int))=true from bF h1];rfl
      ·rw [show decide (a≥(m.Lanes.length:Int))=false from bG (by omega)]
       simp only [bU,bJ,bV]
       rw [lB,aP B,lB]
       by_cases hb:Cj m a= []
       ·rw [hb]
        have e1:ZP (a::t) 1 ((t.length+1:Nat):Int)=some t:=by
          unfold ZP
          rw [bM (by simp;omega)]
          simp
        rw [e1,show decide ((([]:List Int).length:Int)>0)=false from rfl,bK,lB]
        have:=XA B V t (by omega) t 0 a rfl (by omega) (by omega) (by omega)
        rw [show ((0:Nat):Int)=0 from rfl]at this
        rw [this]
        by_cases hc:Lm m a t=true
        ·rw [bM hc,bN (by rw [hc];simp;omega)];rfl
        ·rw [bN hc,bM (.inr (.inr (.inr (.inr (by simpa using hc)))))];rfl
       ·rw [bM (.inr (.inr (.inr (.inl hb)))),show decide (((Cj m a).length:Int)>0)=true from bF (by have:=List.length_pos_iff.2 hb;omega)];rfl
  ·rw [bM q,show (Vv m !=0)=true by simpa using q];rfl
/-- Where the lanes of a route begin. -/
noncomputable def N5 (m:Map):Int→List Int→List Int
  |_,[]=> []
  |s,a::r=>s::N5 m (s+Q3 m a) r
noncomputable def Ec (m:Map):Int→List Int→Int
  |s,[]=>s
  |s,a::r=>Ec m (s+Q3 m a) r
theorem Nh (m:Map): ∀(r:List Int) (s:Int),(N5 m s r).length=r.length
  | [],_=>rfl
  |_::r,_=>by rw [N5,lL,Nh m r,lL]
noncomputable def X2 (m:Map)(r:List Int):RoadsWay:=if P2 m r=0 then ⟨m,r,N5 m 0 r,Ec m 0 r⟩else ⟨⟨0,[],[],[],[]⟩,[],[],0⟩
theorem Pt {m:Map}(B:BearM m)(r:List Int)(hr:r.length≤1000000):Y6 m r=some (X2 m r):=by
  unfold Y6 X2
  rw [CK B r hr,lB]
  by_cases q:P2 m r=0
  ·rw [bM q,q]
   obtain ⟨a,t,rfl,R⟩:=chkRoute_zero.1 q
   have key: ∀(l:List Int) (i:Nat) (s:Int) (st:List Int),(a::t).drop i=l→i≤(a::t).length→0≤s→s≤16777216*i→st.length=i→loop (V9 m (a::t)) ((i:Int),(st,s))=some (st++N5 m s l,Ec m s l):=by
     intro l
     induction l with
     |nil=>
      intro i s st hi hil _ _ _
      have:=O5 hi
      obtain rfl:i=(a::t).length:=by omega
      refine D2 ?_
      unfold V9
      rw [J3,N5,Ec,lP];rfl
     |cons x l ih=>
      intro i s st hi hil h0 h1 h2
      have hlt:=M9 hi
      have hx:=W7 hi
      have hm:=R.mem (lG hx)
      have hl:=R.val.long hm.1 hm.2
      have hm7:=R.most
      simp only [lL]at hlt
      rw [J9 (s':=(((i+1:Nat):Int),(st++ [s],s+Q3 m x)))]
      ·rw [ih (i+1) _ _ (K0 hi) (by simp;omega) (by omega) (by omega) (by simp [h2]),N5,Ec,lO];rfl
      ·unfold V9
       dsimp only
       rw [K7 (by simpa using hlt),D0 hx,bJ,lB,Ee (by simp;omega),lB,JG B.toBear hm.1 hm.2,lB,H8 hlt (by omega),RN (by omega)]
   have:=key (a::t) 0 0 [] rfl (by omega) (by decide) (by decide) rfl
   rw [show ((0:Nat):Int)=0 from rfl]at this
   show (loop (V9 m (a::t)) (0,([],0))).bind _=_
   rw [this];rfl
  ·rw [bN q,show (P2 m r !=0)=true by simpa using q];rfl
/-- The place in a route at which it enters a zone. -/
noncomputable def Eo (m:Map)(r:List Int)(k:Int):Int:=match m.Zones[k.toNat]? with
  |some z=>if 0≤k∧P2 m r=0 then GV (fun l=>(Ng z l).2) r else -1
  |none=> -1
theorem gS {m:Map}(B:BearM m)(r:List Int)(hr:r.length≤1000000)(k:Int):Hh m r k=some (Eo m r k):=by
  unfold Hh Eo
  rw [Pt B r hr,lB]
  by_cases h:k<0∨(m.Zones.length:Int)≤k
  ·rw [show ((decide (k<0))||(decide (k≥(m.Zones.length:Int))))=true by simpa using h,bJ]
   cases hz:m.Zones[k.toNat]? with
   |none=>rfl
   |some z=>
    have:=I7 hz
    dsimp only
    rw [bN (fun x=>by have:=x.1;omega)]
  ·obtain ⟨z,z1,z2⟩:=YP (m:=m) (k:=k) (by omega) (by omega)
   rw [show ((decide (k<0))||(decide (k≥(m.Zones.length:Int))))=false by rw [bW];simpa using h,bK,z1]
   dsimp only
   have hp:=B.toBearZ.parts z (lG z1)
   have key: ∀l:List Int,l.length≤1000000→I3 l m k=some (GV (fun l=>(Ng z l).2) l):=by
     intro l hl
     unfold I3
     rw [Tt l (fun l=>(Ng z l).2) (by omega) (fun i a h=>by
      have hi:=I7 h
      unfold G9 Ah
      rw [K7 hi,D0 h,bJ,lB,z2,lB,kP hp,lB,lB]
      cases (Ng z a).2<;>rfl) (by unfold G9;rw [J3];rfl)]
   unfold X2
   by_cases q:P2 m r=0
   ·rw [bM q,bM ⟨by omega,q⟩,key r hr];rfl
   ·rw [bN q,bN (fun x=>q x.2),key [] (by simp)];rfl
/-- A walk that goes on until it can't. -/
def HY (m:Map):Nat→Int→List Int→Bool
  |c,a,[]=>(nextOf m a.toNat).isEmpty||c==0
  |c,a,b::r=>(nextOf m a.toNat).contains b&&decide (0<c)&&HY m (c - 1) b r
theorem MH {m:Map}: ∀{r:List Int} {c:Nat} {a:Int},HY m c a r=true→Lm m a r=true∧r.length≤c
  | [],c,a,_=>⟨rfl,wE _⟩
  |b::r,c,a,h=>by
   rw [HY,bR,bR,bH]at h
   have:=MH h.2
   rw [Lm,h.1.1,this.1]
   refine ⟨rfl,?_⟩
   simp only [lL];omega
theorem UB {m:Map}(V:ValR m): ∀(f:Nat) (x a:Int) (c:Nat) (out:List Int),0≤x→x<16777216→0≤a→a<m.Lanes.length→m.Lanes.length≤a.toNat+f→out.length+c=8→
    ∃r,loop (La m) (x,a,out)=some (out++r)∧HY m c a r=true
  |0,x,a,c,out,h0,h1,a0,a1,hf,hc=>by omega
  |f+1,x,a,c,out,h0,h1,a0,a1,hf,hc=>by
   obtain ⟨ln,e1,e2⟩:=Up a0 a1
   have hn:nextOf m a.toNat=ln.Next:=by unfold nextOf;rw [e1];rfl
   have hfew:=(V.laneOK e1).few
   by_cases q:ln.Next.length=0∨c=0
   ·refine ⟨[],?_,?_⟩
    ·rw [lP]
     refine D2 ?_
     unfold La
     dsimp only
     rw [e2,lB]
     rw [show ((decide ((ln.Next.length:Int)>0))&& (decide ((out.length:Int)<8)))=false by simp;omega];rfl
    ·rw [HY,hn]
     rcases q with q|q
     ·rw [l8 q];rfl
     ·rw [q,beq_self_eq_true,Bool.or_true]
   ·have hm:=Ig x (show (0:Int)< (ln.Next.length:Int) by omega)
    have hlt:(x % (ln.Next.length:Int)).toNat<ln.Next.length:=by omega
    have hbm:=V.next e1 (List.getElem_mem hlt)
    have hx:0≤x / (ln.Next.length:Int)∧x / (ln.Next.length:Int)<16777216:=⟨Int.ediv_nonneg h0 (by omega),Int.lt_of_le_of_lt (Int.ediv_le_self _ h0) h1⟩
    obtain ⟨r,r1,r2⟩:=UB V f (x / (ln.Next.length:Int)) ln.Next[(x % (ln.Next.length:Int)).toNat] (c - 1) (out++ [ln.Next[(x % (ln.Next.length:Int)).toNat]]) hx.1 hx.2 (by omega) (by omega) (by omega) (by simp;omega)
    refine ⟨ln.Next[(x % (ln.Next.length:Int)).toNat]::r,?_,?_⟩
    ·rw [lO]at r1
     rw [J9 (s':=(x / (ln.Next.length:Int),ln.Next[(x % (ln.Next.length:Int)).toNat],out++ [ln.Next[(x % (ln.Next.length:Int)).toNat]]))]
     ·exact r1
     ·unfold La
      dsimp only
      rw [e2,lB]
      rw [show ((decide ((ln.Next.length:Int)>0))&& (decide ((out.length:Int)<8)))=true by simp;omega,bJ,lB,lB]
      unfold Su II
      rw [bN (by omega),lB,wM h0,wL h0]
      have e3:C3 ln.Next (x % (ln.Next.length:Int))=some ln.Next[(x % (ln.Next.length:Int)).toNat]:=by
        unfold C3
        rw [bM hm.1,lH hlt]
      rw [e3,lB,bN (by omega),lB,Ee (by simp;omega),lB]
      have:IntKind.wrap .i64 (x / (ln.Next.length:Int))=x / (ln.Next.length:Int):=RN (by omega)
      rw [this]
    ·rw [HY,hn,r2,bP,bR]
     exact ⟨List.contains_iff_mem.2 (List.getElem_mem hlt),by simp;omega⟩
/-- A route of the kit: it begins at a source, and goes on until it can't. -/
theorem RC {m:Map}(B:BearM m)(V:ValR m)(n:Int): ∃a t,Ji m n=some (a::t)∧a∈S9 m∧HY m 7 a t=true:=by
  unfold Ji
  obtain ⟨s,s1,_⟩:=PB V 1 0 (by decide) (by have:=V.pos;omega) (by decide)
  have h12:=V.lanes
  have ol:(S9 m).length≤12:=wH (Vu _ _ _) h12
  have op:0< (S9 m).length:=List.length_pos_iff.2 (fun e=>by rw [e]at s1;cases s1)
  rw [TZ B,lB,show (((S9 m).length:Int)==0)=false by simp only [beq_eq_false_iff_ne];omega,bK,Tx (by decide) (by decide),lB]
  have c:=Ig n (show (0:Int)<1048576 by decide)
  generalize n % 1048576=x at c
  unfold Su II
  rw [bN (by omega),lB,wM c.1,wL c.1]
  have hm:=Ig x (show (0:Int)< ((S9 m).length:Int) by omega)
  have hlt:(x % ((S9 m).length:Int)).toNat< (S9 m).length:=by omega
  have e3:C3 (S9 m) (x % ((S9 m).length:Int))=some (S9 m)[(x % ((S9 m).length:Int)).toNat]:=by
    unfold C3
    rw [bM hm.1,lH hlt]
  have hx:0≤x / ((S9 m).length:Int)∧x / ((S9 m).length:Int)<16777216:=⟨Int.ediv_nonneg c.1 (by omega),by have:=Int.ediv_le_self ((S9 m).length:Int) c.1;omega⟩
  rw [e3,lB,bN (by omega),lB]
  have:IntKind.wrap .i64 (x / ((S9 m).length:Int))=x / ((S9 m).length:Int):=RN (by omega)
  rw [this]
  have hmem:=List.getElem_mem hlt
  have ho:=mem_origins.1 hmem
  obtain ⟨r,r1,r2⟩:=UB V m.Lanes.length (x / ((S9 m).length:Int)) (S9 m)[(x % ((S9 m).length:Int)).toNat] 7 [(S9 m)[(x % ((S9 m).length:Int)).toNat]] hx.1 hx.2 ho.1 ho.2.1 (by omega) rfl
  exact ⟨_,r,by rw [r1];rfl,hmem,r2⟩
theorem gT {m:Map}(V:ValR m){a:Int}{t:List Int}(ha:a∈S9 m)(h:HY m 7 a t=true):RouteOK m a t:=by
  have ho:=mem_origins.1 ha
  have hf:=MH h
  exact ⟨V,hf.2,⟨ho.1,ho.2.1⟩,ho.2.2,hf.1⟩
end Go.Abs.World
/-! Lists that are sorted, and how an insertion sort makes them. -/
namespace Go.Abs
open Go
/-- What a comparison must satisfy. -/
structure LtOK {α:Type}(lt:α→α→Bool):Prop where
  asym: ∀a b,lt a b=true→lt b a=false
  trans: ∀a b c,lt b a=false→lt c b=false→lt c a=false
def Srt {α:Type}(lt:α→α→Bool)(l:List α):Prop:=l.Pairwise fun a b=>lt b a=false
section
variable {α:Type}
theorem AJ (U V:List α)(x y:α)(n:Int)(h:n=(U.length:Int)):Nk (U++x::V) n y=U++y::V:=by
  subst h
  simp [Nk]
theorem Vx (U V:List α)(x:α)(n:Int)(h:n=(U.length:Int)):C3 (U++x::V) n=some x:=by
  subst h
  simp [C3]
theorem XB {Q:List α}(h:Q≠ []): ∃Q' q,Q=Q'++ [q]:=⟨Q.dropLast,Q.getLast h,(List.dropLast_concat_getLast h).symm⟩
variable {lt:α→α→Bool}
theorem Srt.ins (L:LtOK lt){Q1 Q2:List α}{x:α}(h:Srt lt (Q1++Q2))(h1: ∀q∈Q1,lt x q=false)(h2: ∀q∈Q2,lt x q=true):Srt lt (Q1++x::Q2):=by
  unfold Srt at h ⊢
  rw [List.pairwise_append]at h ⊢
  refine ⟨h.1,bB.2 ⟨fun b hb=>L.asym _ _ (h2 b hb),h.2.1⟩,fun a ha b hb=> ?_⟩
  rcases lU.1 hb with rfl|hb
  ·exact h1 a ha
  ·exact h.2.2 a ha b hb
theorem LtOK.irr (L:LtOK lt)(a:α):lt a a=false:=by
  cases h:lt a a with
  |false=>rfl
  |true=>rw [L.asym a a h]at h;cases h
theorem Srt.get (L:LtOK lt){l:List α}(h:Srt lt l){i j:Nat}(hij:i≤j)(hj:j<l.length):lt l[j] l[i]=false:=by
  rcases Nat.lt_or_eq_of_le hij with h1|h1
  ·exact List.pairwise_iff_getElem.1 h i j (by omega) hj h1
  ·subst h1;exact L.irr _
theorem Srt.left {l m:List α}(h:Srt lt (l++m)):Srt lt l:=(List.pairwise_append.1 h).1
/-- The inner loop: an element goes down to its place. -/
theorem PD (L:LtOK lt){F:Int×List α→Option (Stp (Int×List α) (List α))}{P T:List α}(N:Nat)
    (hstop: ∀xs,F ((P.length:Int),xs)=some (.out xs))
    (hF: ∀(U V:List α) (q x:α),P.length≤U.length→(U++q::x::V).length=N→F (((U.length:Int)+1),U++q::x::V)=some (if lt x q then .go ((U.length:Int),U++x::q::V)else .out (U++q::x::V))) (x:α):
    ∀(n:Nat) (Q1 Q2:List α),Q1.length=n→Srt lt (Q1++Q2)→(∀q∈Q2,lt x q=true)→(P++Q1++x::Q2++T).length=N→
     ∃Q,loop F (((P.length+Q1.length:Nat):Int),P++Q1++x::Q2++T)=some (P++Q++T)∧Q.Perm (x::(Q1++Q2))∧Srt lt Q:=by
  intro n
  induction n with
  |zero=>
   intro Q1 Q2 hn hs hg hN
   obtain rfl:=List.length_eq_zero_iff.1 hn
   refine ⟨x::Q2,?_,by simp,?_⟩
   ·rw [D2 (by rw [lN,Nat.add_zero];exact hstop _)]
    simp
   ·exact hs.ins L (by simp) hg
  |succ n ih=>
   intro Q1 Q2 hn hs hg hN
   obtain ⟨Q',q,rfl⟩:=XB (Q:=Q1) (by rintro rfl;simp at hn)
   rw [lM,List.length_singleton]at hn
   have e1:P++ (Q'++ [q])++x::Q2++T=(P++Q')++q::x::(Q2++T):=by simp
   have e2:((P.length+ (Q'++ [q]).length:Nat):Int)=((P++Q').length:Int)+1:=by simp;omega
   have hF1:=hF (P++Q') (Q2++T) q x (by simp) (by rw [← e1];exact hN)
   by_cases hl:lt x q=true
   ·rw [bM hl]at hF1
    obtain ⟨Q,g1,g2,g3⟩:=ih Q' (q::Q2) (by omega) (by simpa using hs) (fun y hy=>by
      rcases lU.1 hy with rfl|hy
      ·exact hl
      ·exact hg y hy) (by rw [← hN];simp)
    refine ⟨Q,?_,g2.trans (by simp),g3⟩
    rw [e1,e2,J9 hF1,← g1]
    congr 1
    simp
   ·rw [bN hl]at hF1
    have hl':lt x q=false:=by simpa using hl
    refine ⟨Q'++ [q]++x::Q2,?_,?_,hs.ins L (fun y hy=> ?_) hg⟩
    ·rw [e1,e2,D2 hF1];simp
    ·have:=List.perm_middle (a:=x) (l₁:=Q'++ [q]) (l₂:=Q2);exact this
    ·rcases lT.1 hy with h|h
     ·have hq:lt q y=false:=by
        unfold Srt at hs
        rw [lO,List.pairwise_append]at hs
        exact hs.2.2 y h q (by simp)
      exact L.trans y q x hq hl'
     ·rw [bE.1 h];exact hl'
/-- The outer loop. -/
theorem aT {F:Int×List α→Option (Stp (Int×List α) (List α))}{P S:List α}(N:Nat)(b:Nat)
    (hend: ∀xs (i:Nat),b≤i→F ((i:Int),xs)=some (.out xs))
    (hF: ∀(Q R:List α) (x:α),(P++Q++x::R++S).length=N→P.length+Q.length<b→Srt lt Q→∃Q',F (((P.length+Q.length:Nat):Int),P++Q++x::R++S)=some (.go (((P.length+Q.length+1:Nat):Int),P++Q'++R++S))∧Q'.Perm (x::Q)∧Srt lt Q'):
    ∀(R Q:List α),(P++Q++R++S).length=N→P.length+Q.length+R.length=b→Srt lt Q→∃Q',loop F (((P.length+Q.length:Nat):Int),P++Q++R++S)=some (P++Q'++S)∧Q'.Perm (Q++R)∧Srt lt Q':=by
  intro R
  induction R with
  |nil=>
   intro Q hN hb hs
   refine ⟨Q,?_,by simp,hs⟩
   rw [D2 (hend _ _ (by simpa using Nat.le_of_eq hb.symm))]
   simp
  |cons x R ih=>
   intro Q hN hb hs
   rw [lL]at hb
   obtain ⟨Q',g1,g2,g3⟩:=hF Q R x hN (by omega) hs
   have hl:Q'.length=Q.length+1:=by rw [g2.length_eq];simp
   obtain ⟨Q2,k1,k2,k3⟩:=ih Q' (by rw [← hN];simp [hl];omega) (by omega) g3
   refine ⟨Q2,?_,k2.trans ((g2.append_right R).trans ?_),k3⟩
   ·rw [J9 g1,← k1,hl]
    congr 1
   ·exact (List.perm_middle (a:=x) (l₁:=Q) (l₂:=R)).symm
end
end Go.Abs
/-! How the lists are sorted. -/
namespace Go.Abs.World
open Go Go.Abs
theorem kT {α:Type}(U V:List α)(q x:α):U++q::x::V=(U++ [q])++x::V:=by simp
structure SigOK (s:Signal):Prop where
  pos:0<s.Phases.length
  many:s.Phases.length≤6
  off:0≤s.Offset∧s.Offset≤1099511627776
  ticks: ∀p∈s.Phases,1≤p.Ticks∧p.Ticks≤10000
  green: ∀p∈s.Phases,p.Green.length≤1000000
theorem ValR.sig {m:Map}(B:BearM m)(V:ValR m){i:Nat}{s:Signal}(h:m.Signals[i]? =some s):SigOK s:=by
  have:=firstE_none.1 V.signalE i s h
  unfold World.signalE at this
  split at this
  ·cases this
  split at this
  ·cases this
  split at this
  ·cases this
  split at this
  ·cases this
  rename_i h1 h2 h3 h4
  refine ⟨by omega,by omega,?_,fun p hp=> ?_,(B.toBearS.phases s (lG h)).2⟩
  ·have:Vg s.Offset 0 1099511627776=true:=by simpa using h3
   simpa [Vg] using this
  ·have:Vg p.Ticks 1 10000=true:=by
     cases q:Vg p.Ticks 1 10000 with
     |true=>rfl
     |false=>exact absurd (l7.2 ⟨p,hp,by rw [q];rfl⟩) h4
   simpa [Vg] using this
def Ox:List Phase→Int
  | []=>0
  |p::r=>p.Ticks+Ox r
def HZ (lane:Int):Int→List Phase→Bool
  |_,[]=>false
  |at_,p::r=>if p.Ticks≤at_ then HZ lane (at_ - p.Ticks) r else p.Green.contains lane
def XC (s:Signal)(lane tick:Int):Bool:=HZ lane ((s.Offset+tick) % Ox s.Phases) s.Phases
theorem YR: ∀{l:List Phase},(∀p∈l,1≤p.Ticks∧p.Ticks≤10000)→(l.length:Int)≤Ox l∧Ox l≤10000*l.length
  | [],_=>by simp [Ox]
  |p::r,h=>by
   have:=YR (l:=r) fun q hq=>h q (List.mem_cons_of_mem _ hq)
   have:=h p (by simp)
   simp only [Ox,lL]
   omega
theorem SigOK.sum {s:Signal}(S:SigOK s):1≤Ox s.Phases∧Ox s.Phases≤60000:=by
  have:=YR S.ticks
  have:=S.pos
  have:=S.many
  omega
theorem qY (s:Signal)(S:SigOK s): ∀(r:List Phase) (i:Nat) (a:Int),s.Phases.drop i=r→i≤s.Phases.length→0≤a→a+10000*r.length≤1000000→loop (Bx s) (a,(i:Int))=some (a+Ox r):=by
  intro r
  induction r with
  |nil=>
   intro i a hi hil h0 h1
   have:=O5 hi
   obtain rfl:i=s.Phases.length:=by omega
   refine D2 ?_
   unfold Bx
   rw [J3];simp [Ox]
  |cons p r ih=>
   intro i a hi hil h0 h1
   have hlt:=M9 hi
   have hp:=W7 hi
   have hb:=S.ticks p (lG hp)
   simp only [lL]at h1
   have hs:Bx s (a,(i:Int))=some (.go (a+p.Ticks,((i+1:Nat):Int))):=by
     unfold Bx
     dsimp only
     rw [K7 hlt,D0 hp,bJ,lB,F8 (by omega),H8 hlt (by have:=S.many;omega)]
   rw [J9 hs,ih (i+1) _ (K0 hi) (by omega) (by omega) (by omega),Ox]
   congr 1;omega
theorem qZ (s:Signal)(S:SigOK s)(lane:Int): ∀(r:List Phase) (i:Nat) (a:Int),s.Phases.drop i=r→i≤s.Phases.length→0≤a→a≤1000000→thenS (loop (U3 s lane) (a,(i:Int))) (fun _=>some false) (fun r=>some r)=some (HZ lane a r):=by
  intro r
  induction r with
  |nil=>
   intro i a hi hil h0 h1
   have:=O5 hi
   obtain rfl:i=s.Phases.length:=by omega
   rw [D2 (t:= .inl ())]
   ·rfl
   ·unfold U3
    rw [J3];rfl
  |cons p r ih=>
   intro i a hi hil h0 h1
   have hlt:=M9 hi
   have hp:=W7 hi
   have hb:=S.ticks p (lG hp)
   by_cases hc:p.Ticks≤a
   ·have hs:U3 s lane (a,(i:Int))=some (.go (a - p.Ticks,((i+1:Nat):Int))):=by
      unfold U3
      dsimp only
      rw [K7 hlt,D0 hp,bJ,lB,show decide (a≥p.Ticks)=true from bF hc,bJ,F8 (by omega),H8 hlt (by have:=S.many;omega)]
    rw [J9 hs,ih (i+1) _ (K0 hi) (by omega) (by omega) (by omega),HZ,bM hc]
   ·have hs:U3 s lane (a,(i:Int))=some (.out (.inr (p.Green.contains lane))):=by
      unfold U3
      dsimp only
      rw [K7 hlt,D0 hp,bJ,lB,show decide (a≥p.Ticks)=false from bG (by omega),bK,AI _ (S.green p (lG hp)),lB]
    rw [D2 hs,HZ,bN hc];rfl
theorem nC {s:Signal}(S:SigOK s){tick:Int}(h:0≤tick):(D8 (s.Offset.tmod (Ox s.Phases)+tick.tmod (Ox s.Phases))).tmod (Ox s.Phases)=(s.Offset+tick) % Ox s.Phases:=by
  obtain ⟨h1,h2⟩:=S.sum
  have ho:=S.off.1
  rw [wM ho,wM h]
  have a1:=wN s.Offset (b:=Ox s.Phases) (by omega)
  have a2:=wN tick (b:=Ox s.Phases) (by omega)
  have a3:=wO s.Offset (b:=Ox s.Phases) (by omega)
  have a4:=wO tick (b:=Ox s.Phases) (by omega)
  rw [F8 (by omega),wM (by omega),← Int.add_emod]
theorem aU {s:Signal}(S:SigOK s)(lane:Int){tick:Int}(h:0≤tick):Fd s lane tick=some (XC s lane tick):=by
  obtain ⟨h1,h2⟩:=S.sum
  unfold Fd
  have e1:loop (Bx s) (0,0)=some (Ox s.Phases):=by
    have:=qY s S s.Phases 0 0 rfl (by omega) (by omega) (by have:=S.many;omega)
    rw [Int.zero_add]at this;exact this
  have hne:Ox s.Phases≠0:=by omega
  rw [e1,lB]
  unfold Su
  rw [bN hne,lB,bN hne,lB,bN hne,lB,nC S h]
  refine qZ s S lane s.Phases 0 _ rfl (by omega) (wN _ hne) ?_
  have:=wO (s.Offset+tick) (b:=Ox s.Phases) (by omega)
  omega
noncomputable def GX (m:Map)(g lane tick:Int):Bool:=(((decide (tick≥0))&& (decide (g≥0)))&& (decide (g< (m.Signals.length:Int))))&&WU m lane&&XC (m.Signals.getD g.toNat default) lane tick
theorem gU {m:Map}(B:BearM m)(g lane tick:Int):Hj m g lane tick=some (GX m g lane tick):=by
  unfold Hj GX
  rw [HV B]
  cases hc:(((decide (tick≥0))&& (decide (g≥0)))&& (decide (g< (m.Signals.length:Int))))
  ·rfl
  ·cases hi:WU m lane
   ·rfl
   ·simp only [bR,bH]at hc
    obtain ⟨⟨c1,c2⟩,c3⟩:=hc
    have hl:g.toNat<m.Signals.length:=by omega
    have hget:m.Signals[g.toNat]? =some (m.Signals.getD g.toNat default):=by rw [List.getD,lH hl];rfl
    have hg:C3 m.Signals g=some (m.Signals.getD g.toNat default):=by unfold C3;rw [bM c2,hget]
    have S:=((isM_true.1 hi).2.2).sig B hget
    simp only [bJ,lB,bO,hg,aU S lane c1]
theorem Ty {high:Int}: ∀{l:List Int} {low:Int},Cg high low l=true→l.Pairwise (· < ·)
  | [],_,_=>List.Pairwise.nil
  |n::r,low,h=>by
   simp only [Cg,bR]at h
   refine bB.2 ⟨fun x hx=> ?_,Ty h.2⟩
   have:=(Lf h.2 x hx).1
   omega
end Go.Abs.World
namespace Go.Abs
open Go
section
variable {α β σ τ:Type}
/-- What rounds put one behind the other. -/
def Oq (g:Nat→α→List β):Nat→List α→List β
  |_,[]=> []
  |i,a::r=>g i a++Oq g (i+1) r
theorem GY (g:Nat→α→List β)(C:Nat): ∀(l:List α) (i:Nat),(∀(j:Nat) a,l[j]? =some a→(g (i+j) a).length≤C)→(Oq g i l).length≤l.length*C
  | [],_,_=>by simp [Oq]
  |a::r,i,h=>by
   have h1:=h 0 a rfl
   have h2:=GY g C r (i+1) (fun j b hb=>by have:=h (j+1) b (by simpa using hb);rwa [show i+1+j=i+ (j+1) by omega])
   rw [Oq,lM,lL,Nat.succ_mul]
   rw [Nat.add_zero]at h1
   omega
theorem pZ {F:List β×Int→Option (Stp (List β×Int) τ)}(l:List α)(g:Nat→α→List β)(fin:List β→τ)(s0:List β)(C B:Nat)(hB:s0.length+l.length*C≤B)(hC: ∀(i:Nat) a,l[i]? =some a→(g i a).length≤C)
    (hF: ∀(i:Nat) a (s:List β),l[i]? =some a→s.length+C≤B→F (s,(i:Int))=some (.go (s++g i a,((i+1:Nat):Int))))
    (h0: ∀s,F (s,(l.length:Int))=some (.out (fin s))):loop F (s0,0)=some (fin (s0++Oq g 0 l)):=by
  have key: ∀(r:List α) (i:Nat) (s:List β),Xt (fun i s a=>s++g i a) i s r=s++Oq g i r:=by
    intro r
    induction r with
    |nil=>intro i s;simp [Xt,Oq]
    |cons a r ih=>intro i s;rw [Xt,ih,Oq,lO]
  have:=YO (F:=F) (fun i s=>(s,(i:Int))) l (fun i s=>i≤l.length→s.length≤s0.length+i*C) (fun i s a=>s++g i a) fin (s0:=s0) (S0:=(s0,0)) rfl (by simp) (fun i a s h hs=>by
    have hi:=(lI.1 h).1
    have:=hs (by omega)
    have e:i*C+C≤l.length*C:=by rw [← Nat.succ_mul];exact Nat.mul_le_mul_right _ hi
    exact hF i a s h (by omega)) (fun i a s h hs=>by
    intro hi
    have:=hs (by omega)
    have:=hC i a h
    rw [lM,Nat.succ_mul];omega) (fun s _=>h0 s)
  rw [this,key]
end
end Go.Abs
namespace Go.Abs.World
open Go Go.Abs
theorem gV {z:Zone}(hl:z.Parts.length≤1000000)(k:Int):Ws z k=some (Ng z k):=by
  have key: ∀(r:List Part) (i:Nat),z.Parts.drop i=r→i≤z.Parts.length→thenS (loop (Fx z k) (i:Int)) (fun _=>some ((⟨0,0,0,0⟩:Part),false)) (fun r=>some r)=some (match r.find? (fun p=>p.Lane_==k)with|some p=>(p,true)|none=>(⟨0,0,0,0⟩,false)):=by
    intro r
    induction r with
    |nil=>
     intro i hi hil
     have:=O5 hi
     obtain rfl:i=z.Parts.length:=by omega
     rw [D2 (t:= .inl ()) (by unfold Fx;rw [J3];rfl)];rfl
    |cons p r ih=>
     intro i hi hil
     have hlt:=M9 hi
     have hp:=W7 hi
     rw [List.find?_cons]
     cases q:p.Lane_==k
     ·rw [J9 (s':=((i+1:Nat):Int)) (by unfold Fx;rw [K7 hlt,D0 hp,bJ,lB,q,H8 hlt (by omega)];rfl)]
      exact ih (i+1) (K0 hi) (by omega)
     ·rw [D2 (t:= .inr (p,true)) (by unfold Fx;rw [K7 hlt,D0 hp,bJ,lB,q,bJ,lB])];rfl
  exact key z.Parts 0 rfl (by omega)
end Go.Abs.World
