/-
  Plain facts on the functions: what they compute, and that the law holds of it.
-/
import Derived.Test.YtgjdiioennhoeaaGreatFns4
set_option maxRecDepth 100000
set_option synthInstance.maxHeartbeats 0
set_option synthInstance.maxSize 100000
set_option linter.unusedVariables false
namespace Go.Abs.World
open Go Go.Abs
noncomputable def Pk (p1:State)(x1:(Int×State)):Option (Stp (Int×State) State):=
  cond (decide (x1.1< (p1.Agents.length:Int))) ((C0 p1.Agents x1.1).bind fun v2=>(X3 ([]:List Int) v2.Route).bind fun v3=>(X3 x1.2.Agents [(Agent.mk v3 v2.S v2.V v2.Len v2.Begin v2.Obey v2.Gone)]).bind fun v4=>some (.go ((D6 (x1.1+1)),(State.mk x1.2.Tick v4 x1.2.In)))) (some (.out x1.2))
noncomputable def KN [Lp](p1:State):Option State:=
  (X3 ([]:List Stay) p1.In).bind fun v1=>(loop (Pk p1) (0,(State.mk p1.Tick [] v1))).bind fun y1=>some y1
noncomputable def Hj (x1:((List Int)×Int))(v2:(Part×Bool))(x2:Int):Option (Stp Int Int):=
  ((cond (decide (x2< (x1.1.length:Int))) (C0 x1.1 x2) (some default))).bind fun v5=>cond ((decide (x2< (x1.1.length:Int)))&& (decide (v5<v2.1.From))) (some (.go (D6 (x2+1)))) (some (.out x2))
noncomputable def Hl [Lp](p1:Map)(p2:Int)(p3:Int)(x1:((List Int)×Int)):Option (Stp ((List Int)×Int) (List Int)):=
  cond (decide (x1.2< (p1.Zones.length:Int))) ((C0 p1.Zones x1.2).bind fun v1=>(Sj v1 p2).bind fun v2=>((cond (!((!v2.2)||(v1.Signal_==0))) (C0 p1.Signals (D6 (v1.Signal_ - 1))) (some default))).bind fun v3=>((cond (!((!v2.2)||(v1.Signal_==0))) (Na v3 p2 p3) (some default))).bind fun v4=>cond (((!v2.2)||(v1.Signal_==0))||v4) (some (.go (x1.1,(D6 (x1.2+1))))) ((loop (Hj x1 v2) 0).bind fun y2=>((cond (decide (y2< (x1.1.length:Int))) (C0 x1.1 y2) (some default))).bind fun v6=>cond ((decide (y2< (x1.1.length:Int)))&& (v6==v2.1.From)) (some (.go (x1.1,(D6 (x1.2+1))))) ((AG x1.1 0 y2).bind fun v7=>(X3 ([]:List Int) v7).bind fun v8=>(X3 v8 [v2.1.From]).bind fun v9=>(AG x1.1 y2 (x1.1.length:Int)).bind fun v10=>(X3 v9 v10).bind fun v11=>some (.go (v11,(D6 (x1.2+1))))))) (some (.out x1.1))
noncomputable def HA [Lp](p1:Map)(p2:Int)(p3:Int):Option (List Int):=
  (loop (Hl p1 p2 p3) ([],0)).bind fun y1=>some y1
noncomputable def Us [Lp](p1:Map)(p2:Int)(p3:Int):Option (List Int):=
  (Mn p1 p2).bind fun v1=>cond ((!v1)||(decide (p3<0))) (some []) ((HA p1 p2 p3).bind fun v2=>some v2)
noncomputable def Dl (p2:Int)(x1:(Int×Int)):Option (Stp (Int×Int) Int):=
  cond (decide (x1.1>(Mg false p2 1000000))) (some (.go ((D6 (x1.1 - (Mg false p2 1000000))),(D6 (x1.2+ (D6 (x1.1 - (Mg false p2 1000000)))))))) (some (.out x1.2))
noncomputable def Vy [Lp](p1:Int)(p2:Int):Option Int:=
  cond ((decide ((Mg false p1 1000000)<1))||(decide ((Mg false p2 1000000)<1))) (some 0) ((loop (Dl p2) ((Mg false p1 1000000),0)).bind fun y1=>some y1)
noncomputable def Sl [Lp](p1:(List Int))(p2:Int)(p3:Int)(p4:Int)(p5:Int)(x1:Int):Option (Stp Int (Sum Unit Bool)):=
  cond (decide (x1< (p1.length:Int))) ((C0 p1 x1).bind fun v1=>((cond (decide (v1>p2)) (Vy p3 p5) (some default))).bind fun v2=>((cond (decide (v1>p2)) (C0 p1 x1) (some default))).bind fun v3=>((cond ((decide (v1>p2))&& (decide ((D6 (p2+v2))<v3))) (Vy p4 p5) (some default))).bind fun v4=>((cond ((decide (v1>p2))&& (decide ((D6 (p2+v2))<v3))) (C0 p1 x1) (some default))).bind fun v5=>cond (((decide (v1>p2))&& (decide ((D6 (p2+v2))<v3)))&& (decide ((D6 ((D6 (p2+p4))+v4))≥v5))) (some (.out (.inr false))) (some (.go (D6 (x1+1))))) (some (.out (.inl ())))
noncomputable def Za [Lp](p1:(List Int))(p2:Int)(p3:Int)(p4:Int)(p5:Int):Option Bool:=
  thenS (loop (Sl p1 p2 p3 p4 p5) 0) (fun _=>some true) (fun r=>some r)
noncomputable def Jn [Lp](p2:Agent)(v1:(Int×Int))(v3:(Int×Int×Int))(v5:(List Int))(x1:(Int×Int)):Option (Stp (Int×Int) Int):=
  ((cond (decide (x1.1>(D6 (0 - v3.2.2)))) (Za v5 v1.2 p2.V x1.2 v3.2.2) (some default))).bind fun v6=>cond ((decide (x1.1>(D6 (0 - v3.2.2))))&& (!v6)) (some (.go ((D6 (x1.1 - 1)),(Mg true 0 (Mg false (D6 (p2.V+ (D6 (x1.1 - 1)))) v3.1))))) (some (.out x1.2))
noncomputable def Vz [Lp](p1:Map)(p2:Agent)(p3:Int)(p4:Int):Option Agent:=
  (Ox p1 p2).bind fun v1=>(C0 p1.Lanes v1.1).bind fun v2=>(Dd v2.Kind).bind fun v3=>((cond p2.Obey (Ky p1 v1.1) (some default))).bind fun v4=>(cond (p2.Obey&& (decide (v1.2≤v4))) ((Us p1 v1.1 p3).bind fun v5=>(loop (Jn p2 v1 v3 v5) ((Mg true (D6 (0 - v3.2.2)) (Mg false p4 v3.2.1)),(Mg true 0 (Mg false (D6 (p2.V+ (Mg true (D6 (0 - v3.2.2)) (Mg false p4 v3.2.1)))) v3.1)))).bind fun y2=>some y2) (some (Mg true 0 (Mg false (D6 (p2.V+ (Mg true (D6 (0 - v3.2.2)) (Mg false p4 v3.2.1)))) v3.1)))).bind fun y1=>(Ml p1 (Agent.mk p2.Route (D6 (p2.S+y1)) y1 p2.Len p2.Begin p2.Obey p2.Gone)).bind fun v7=>some (Agent.mk p2.Route (D6 (p2.S+y1)) y1 p2.Len p2.Begin p2.Obey v7)
noncomputable def KO [Lp](p1:Map)(p2:State)(p3:Int)(p4:Int):Option Agent:=
  cond ((decide (p3<0))||(decide (p3≥(p2.Agents.length:Int)))) (some (Agent.mk [] 0 0 0 0 false false)) ((C0 p2.Agents p3).bind fun v1=>(X3 ([]:List Int) v1.Route).bind fun v2=>(Mz p1 p2).bind fun v3=>((cond (!(v3 !=0)) (Ib p2 p3) (some default))).bind fun v4=>cond ((v3 !=0)||(!v4)) (some (Agent.mk v2 v1.S v1.V v1.Len v1.Begin v1.Obey v1.Gone)) ((Vz p1 (Agent.mk v2 v1.S v1.V v1.Len v1.Begin v1.Obey v1.Gone) p2.Tick p4).bind fun v5=>some v5))
instance (a)(b)(c)(d):Le (@U2 V8 a b c d) (U2 a b c d):=by unfold U2;infer_instance
instance:Le (@Rh V8) (Rh):=by unfold Rh;infer_instance
instance (a):Le (@If V8 a) (If a):=by unfold If;infer_instance
instance (a):Le (@Jy V8 a) (Jy a):=by unfold Jy;infer_instance
instance curve_root_le (a):Le (@Fu V8 a) (Fu a):=by unfold Fu;infer_instance
instance (a)(b):Le (@X9 V8 a b) (X9 a b):=by unfold X9;infer_instance
instance (a):Le (@Fa V8 a) (Fa a):=by unfold Fa;infer_instance
instance (a)(b)(c):Le (@Bl V8 a b c) (Bl a b c):=by unfold Bl;infer_instance
instance (a)(b):Le (@Q8 V8 a b) (Q8 a b):=by unfold Q8;infer_instance
instance (a):Le (@V1 V8 a) (V1 a):=by unfold V1;infer_instance
instance (a)(b):Le (@P8 V8 a b) (P8 a b):=by unfold P8;infer_instance
instance (a):Le (@T8 V8 a) (T8 a):=by unfold T8;infer_instance
instance (a):Le (@H5 V8 a) (H5 a):=by unfold H5;infer_instance
instance (a):Le (@F2 V8 a) (F2 a):=by unfold F2;infer_instance
instance (a)(b):Le (@S9 V8 a b) (S9 a b):=by unfold S9;infer_instance
instance (a)(b)(c):Le (@F0 V8 a b c) (F0 a b c):=by unfold F0;infer_instance
instance (a)(b):Le (@G8 V8 a b) (G8 a b):=by unfold G8;infer_instance
instance (a)(b):Le (@F1 V8 a b) (F1 a b):=by unfold F1;infer_instance
instance (a)(b):Le (@P0 V8 a b) (P0 a b):=by unfold P0;infer_instance
instance (a):Le (@S5 V8 a) (S5 a):=by unfold S5;infer_instance
instance piecesGo_le (pts:List Spot): ∀(n i:Nat) (s:Int),Le (@Ix V8 pts n i s) (Ix pts n i s)
  |0,i,s=>Le.refl _
  |n+1,i,s=>by
   unfold Ix
   have:=fun i s=>piecesGo_le pts n i s
   infer_instance -- curve_root_le
instance (a):Le (@Tk V8 a) (Tk a):=by unfold Tk;infer_instance
instance (a):Le (@Fb V8 a) (Fb a):=by unfold Fb;infer_instance
instance curve_Length_le (a):Le (@Cz V8 a) (Cz a):=by unfold Cz;infer_instance
instance (a)(b):Le (@Cq V8 a b) (Cq a b):=by unfold Cq;infer_instance
instance (a)(b)(c):Le (@Q9 V8 a b c) (Q9 a b c):=by unfold Q9;infer_instance
instance (a)(b):Le (@R0 V8 a b) (R0 a b):=by unfold R0;infer_instance
instance (a):Le (@V2 V8 a) (V2 a):=by unfold V2;infer_instance
instance (a)(b):Le (@R3 V8 a b) (R3 a b):=by unfold R3;infer_instance
instance (a):Le (@V3 V8 a) (V3 a):=by unfold V3;infer_instance
instance (a)(b):Le (@T0 V8 a b) (T0 a b):=by unfold T0;infer_instance
instance (a)(b):Le (@O8 V8 a b) (O8 a b):=by unfold O8;infer_instance
instance roads_Check_le (a):Le (@Bx V8 a) (Bx a):=by unfold Bx;infer_instance
instance (a)(b):Le (@R4 V8 a b) (R4 a b):=by unfold R4;infer_instance
instance (a)(b):Le (@N4 V8 a b) (N4 a b):=by unfold N4;infer_instance
instance (a)(b)(c):Le (@Ao V8 a b c) (Ao a b c):=by unfold Ao;infer_instance
instance (a)(b):Le (@Fd V8 a b) (Fd a b):=by unfold Fd;infer_instance
instance (a)(b)(c):Le (@Q3 V8 a b c) (Q3 a b c):=by unfold Q3;infer_instance
instance (a)(b):Le (@W9 V8 a b) (W9 a b):=by unfold W9;infer_instance
instance (a)(b)(c):Le (@W5 V8 a b c) (W5 a b c):=by unfold W5;infer_instance
instance (a)(b):Le (@Z8 V8 a b) (Z8 a b):=by unfold Z8;infer_instance
instance (a)(b):Le (@V4 V8 a b) (V4 a b):=by unfold V4;infer_instance
instance (a)(b):Le (@Bn V8 a b) (Bn a b):=by unfold Bn;infer_instance
instance (a)(b):Le (@Ig V8 a b) (Ig a b):=by unfold Ig;infer_instance
instance (a)(b):Le (@Fv V8 a b) (Fv a b):=by unfold Fv;infer_instance
instance (a)(b)(c):Le (@Y7 V8 a b c) (Y7 a b c):=by unfold Y7;infer_instance
instance (a):Le (@Bc V8 a) (Bc a):=by unfold Bc;infer_instance
instance (a)(b):Le (@Dg V8 a b) (Dg a b):=by unfold Dg;infer_instance
instance (a)(b):Le (@K0 V8 a b) (K0 a b):=by unfold K0;infer_instance
instance (a)(b):Le (@F8 V8 a b) (F8 a b):=by unfold F8;infer_instance
instance (a)(b)(c):Le (@Aa V8 a b c) (Aa a b c):=by unfold Aa;infer_instance
instance (a)(b)(c):Le (@Ab V8 a b c) (Ab a b c):=by unfold Ab;infer_instance
instance (a)(b):Le (@Dh V8 a b) (Dh a b):=by unfold Dh;infer_instance
instance (a):Le (@L5 V8 a) (L5 a):=by unfold L5;infer_instance
instance (a):Le (@K7 V8 a) (K7 a):=by unfold K7;infer_instance
instance (a)(b):Le (@By V8 a b) (By a b):=by unfold By;infer_instance
instance (a)(b):Le (@D1 V8 a b) (D1 a b):=by unfold D1;infer_instance
instance (a)(b)(c):Le (@D7 V8 a b c) (D7 a b c):=by unfold D7;infer_instance
instance (a)(b)(c):Le (@D4 V8 a b c) (D4 a b c):=by unfold D4;infer_instance
instance (a)(b)(c):Le (@H4 V8 a b c) (H4 a b c):=by unfold H4;infer_instance
instance (a)(b):Le (@E0 V8 a b) (E0 a b):=by unfold E0;infer_instance
instance (a)(b):Le (@J8 V8 a b) (J8 a b):=by unfold J8;infer_instance
instance (a):Le (@F9 V8 a) (F9 a):=by unfold F9;infer_instance
instance (a)(b)(c):Le (@I5 V8 a b c) (I5 a b c):=by unfold I5;infer_instance
instance (a)(b):Le (@E9 V8 a b) (E9 a b):=by unfold E9;infer_instance
instance (a)(b):Le (@I6 V8 a b) (I6 a b):=by unfold I6;infer_instance
instance (a)(b):Le (@I7 V8 a b) (I7 a b):=by unfold I7;infer_instance
instance (a):Le (@J9 V8 a) (J9 a):=by unfold J9;infer_instance
instance:Le (@G0 V8) (G0):=by unfold G0;infer_instance
instance (a)(b)(c)(d)(e):Le (@U3 V8 a b c d e) (U3 a b c d e):=by unfold U3;infer_instance
instance (a)(b)(c):Le (@O4 V8 a b c) (O4 a b c):=by unfold O4;infer_instance
instance (a)(b):Le (@V7 V8 a b) (V7 a b):=by unfold V7;infer_instance
instance (a)(b)(c):Le (@J0 V8 a b c) (J0 a b c):=by unfold J0;infer_instance
instance (a)(b)(c):Le (@G2 V8 a b c) (G2 a b c):=by unfold G2;infer_instance
instance (a)(b)(c)(d):Le (@Di V8 a b c d) (Di a b c d):=by unfold Di;infer_instance
instance (a)(b)(c):Le (@N6 V8 a b c) (N6 a b c):=by unfold N6;infer_instance
instance (a)(b)(c):Le (@D5 V8 a b c) (D5 a b c):=by unfold D5;infer_instance
instance (a)(b):Le (@D2 V8 a b) (D2 a b):=by unfold D2;infer_instance
instance (a)(b):Le (@K4 V8 a b) (K4 a b):=by unfold K4;infer_instance
instance (a)(b):Le (@Jz V8 a b) (Jz a b):=by unfold Jz;infer_instance
instance (a)(b)(c):Le (@Ad V8 a b c) (Ad a b c):=by unfold Ad;infer_instance
instance (a)(b)(c)(d):Le (@H8 V8 a b c d) (H8 a b c d):=by unfold H8;infer_instance
instance (a)(b)(c):Le (@I8 V8 a b c) (I8 a b c):=by unfold I8;infer_instance
instance (a)(b)(c):Le (@Hv V8 a b c) (Hv a b c):=by unfold Hv;infer_instance
instance (a)(b)(c):Le (@Dj V8 a b c) (Dj a b c):=by unfold Dj;infer_instance
instance (a)(b):Le (@Ls V8 a b) (Ls a b):=by unfold Ls;infer_instance
instance (a)(b)(c):Le (@U4 V8 a b c) (U4 a b c):=by unfold U4;infer_instance
instance (a)(b)(c):Le (@Fg V8 a b c) (Fg a b c):=by unfold Fg;infer_instance
instance (a)(b)(c)(d):Le (@Hy V8 a b c d) (Hy a b c d):=by unfold Hy;infer_instance
instance (a)(b):Le (@I9 V8 a b) (I9 a b):=by unfold I9;infer_instance
instance (a)(b)(c)(d):Le (@Fx V8 a b c d) (Fx a b c d):=by unfold Fx;infer_instance
instance (a)(b)(c)(d):Le (@X0 V8 a b c d) (X0 a b c d):=by unfold X0;infer_instance
instance (a)(b):Le (@X1 V8 a b) (X1 a b):=by unfold X1;infer_instance
instance (a):Le (@Am V8 a) (Am a):=by unfold Am;infer_instance
instance (a)(b):Le (@Bp V8 a b) (Bp a b):=by unfold Bp;infer_instance
instance (a)(b)(c)(d):Le (@Bq V8 a b c d) (Bq a b c d):=by unfold Bq;infer_instance
instance (a)(b):Le (@Ik V8 a b) (Ik a b):=by unfold Ik;infer_instance
instance (a)(b):Le (@I3 V8 a b) (I3 a b):=by unfold I3;infer_instance
instance (a)(b):Le (@F6 V8 a b) (F6 a b):=by unfold F6;infer_instance
instance (a)(b):Le (@Y5 V8 a b) (Y5 a b):=by unfold Y5;infer_instance
instance (a)(b)(c):Le (@G3 V8 a b c) (G3 a b c):=by unfold G3;infer_instance
instance (a)(b):Le (@J1 V8 a b) (J1 a b):=by unfold J1;infer_instance
instance (a)(b):Le (@G4 V8 a b) (G4 a b):=by unfold G4;infer_instance
instance (a)(b)(c):Le (@Ca V8 a b c) (Ca a b c):=by unfold Ca;infer_instance
instance (a)(b)(c)(d):Le (@S6 V8 a b c d) (S6 a b c d):=by unfold S6;infer_instance
instance (a)(b)(c)(d):Le (@Kt V8 a b c d) (Kt a b c d):=by unfold Kt;infer_instance
instance (a)(b)(c)(d)(e):Le (@Ku V8 a b c d e) (Ku a b c d e):=by unfold Ku;infer_instance
instance (a)(b):Le (@Rk V8 a b) (Rk a b):=by unfold Rk;infer_instance
instance (a)(b)(c):Le (@G6 V8 a b c) (G6 a b c):=by unfold G6;infer_instance
instance (a)(b)(c):Le (@J3 V8 a b c) (J3 a b c):=by unfold J3;infer_instance
instance (a)(b):Le (@N0 V8 a b) (N0 a b):=by unfold N0;infer_instance
instance (a)(b)(c)(d):Le (@O0 V8 a b c d) (O0 a b c d):=by unfold O0;infer_instance
instance (a):Le (@O5 V8 a) (O5 a):=by unfold O5;infer_instance
instance (a)(b)(c):Le (@M2 V8 a b c) (M2 a b c):=by unfold M2;infer_instance
instance (a)(b):Le (@L9 V8 a b) (L9 a b):=by unfold L9;infer_instance
instance (a):Le (@N1 V8 a) (N1 a):=by unfold N1;infer_instance
instance (a)(b)(c):Le (@O1 V8 a b c) (O1 a b c):=by unfold O1;infer_instance
instance:Le (@O6 V8) (O6):=by unfold O6;infer_instance
instance (a)(b)(c)(d)(e):Le (@Ae V8 a b c d e) (Ae a b c d e):=by unfold Ae;infer_instance
instance (a)(b)(c)(d):Le (@Af V8 a b c d) (Af a b c d):=by unfold Af;infer_instance
instance (a)(b)(c):Le (@Mw V8 a b c) (Mw a b c):=by unfold Mw;infer_instance
instance (a)(b)(c):Le (@Es V8 a b c) (Es a b c):=by unfold Es;infer_instance
instance (a)(b)(c)(d)(e):Le (@I4 V8 a b c d e) (I4 a b c d e):=by unfold I4;infer_instance
instance (a)(b)(c)(d)(e):Le (@H6 V8 a b c d e) (H6 a b c d e):=by unfold H6;infer_instance
instance (a)(b)(c)(d)(e):Le (@Hz V8 a b c d e) (Hz a b c d e):=by unfold Hz;infer_instance
instance (a)(b)(c)(d)(e):Le (@W7 V8 a b c d e) (W7 a b c d e):=by unfold W7;infer_instance
instance (a)(b)(c)(d):Le (@Fy V8 a b c d) (Fy a b c d):=by unfold Fy;infer_instance
instance (a)(b)(c)(d):Le (@Kd V8 a b c d) (Kd a b c d):=by unfold Kd;infer_instance
instance (a):Le (@Fz V8 a) (Fz a):=by unfold Fz;infer_instance
instance (a)(b)(c):Le (@S7 V8 a b c) (S7 a b c):=by unfold S7;infer_instance
instance (a)(b)(c):Le (@T9 V8 a b c) (T9 a b c):=by unfold T9;infer_instance
instance (a)(b)(c)(d)(e)(f)(g)(h):Le (@Ag V8 a b c d e f g h) (Ag a b c d e f g h):=by unfold Ag;infer_instance
instance (a)(b)(c)(d)(e)(f)(g)(h):Le (@Dy V8 a b c d e f g h) (Dy a b c d e f g h):=by unfold Dy;infer_instance
instance (a)(b)(c)(d)(e)(f)(g)(h)(i):Le (@Ah V8 a b c d e f g h i) (Ah a b c d e f g h i):=by unfold Ah;infer_instance
instance (a)(b)(c)(d)(e)(f)(g)(h):Le (@Ga V8 a b c d e f g h) (Ga a b c d e f g h):=by unfold Ga;infer_instance
instance (a)(b)(c)(d)(e)(f)(g)(h):Le (@Br V8 a b c d e f g h) (Br a b c d e f g h):=by unfold Br;infer_instance
instance (a)(b)(c)(d)(e)(f):Le (@Gb V8 a b c d e f) (Gb a b c d e f):=by unfold Gb;infer_instance
instance (a)(b)(c)(d)(e)(f)(g)(h):Le (@Bs V8 a b c d e f g h) (Bs a b c d e f g h):=by unfold Bs;infer_instance
instance (a)(b)(c)(d)(e)(f):Le (@Bt V8 a b c d e f) (Bt a b c d e f):=by unfold Bt;infer_instance
instance (a)(b)(c)(d)(e):Le (@Gc V8 a b c d e) (Gc a b c d e):=by unfold Gc;infer_instance
instance (a)(b)(c)(d):Le (@Bu V8 a b c d) (Bu a b c d):=by unfold Bu;infer_instance
instance (a)(b)(c)(d):Le (@Gd V8 a b c d) (Gd a b c d):=by unfold Gd;infer_instance
instance (a)(b)(c):Le (@Il V8 a b c) (Il a b c):=by unfold Il;infer_instance
instance law04_awake_le:Le (@Ia V8) (Ia):=by unfold Ia;infer_instance
theorem Jd (n:Int): ∃y,Fu n=some (y,y*y==n)∧0≤y∧y≤67108864∧(∀m,0≤m→m<y→m*m<n)∧(y=67108864∨n≤y*y):=by
  have key:=RW (f:=Lr n) (fun x=>0≤x.1∧x.1≤x.2∧x.2≤67108864∧(∀m,0≤m→m<x.1→m*m<n)∧(x.2=67108864∨n≤x.2*x.2)) (fun x=>(x.2 - x.1).toNat)
    (fun y=>0≤y∧y≤67108864∧(∀m,0≤m→m<y→m*m<n)∧(y=67108864∨n≤y*y)) (by
      rintro ⟨lo,hi⟩ ⟨h1,h2,h3,h4,h5⟩
      dsimp only at h1 h2 h3 h4 h5
      unfold Lr
      dsimp only
      by_cases hlt:lo<hi
      ·have e1:D6 (lo+hi)=lo+hi:=F5 (by omega)
       have e2:D6 ((lo+hi).tdiv 2)=(lo+hi) / 2:=by rw [wP (by omega)];exact F5 (by omega)
       have hm:lo≤(lo+hi) / 2∧(lo+hi) / 2<hi:=by omega
       generalize hmid:(lo+hi) / 2=mid at*
       have hmm:mid*mid≤67108864*67108864:=XM (by omega) (by omega)
       have hmm0:=Rg mid
       have e3:D6 (mid*mid)=mid*mid:=F5 (by omega)
       have e4:D6 (mid+1)=mid+1:=F5 (by omega)
       simp only [e1,e2,e3,e4,hlt,decide_true,bO]
       by_cases hc:mid*mid<n
       ·simp only [hc,decide_true,bO]
        refine ⟨_,rfl,⟨by omega,by omega,h3,fun m hm0 hm1=> ?_,h5⟩,by dsimp only;omega⟩
        rcases Int.lt_or_le m mid with q|q
        ·have:=Int.mul_le_mul (show m≤mid by omega) (show m≤mid by omega) hm0 (by omega);omega
        ·have:m=mid:=by dsimp only at hm1;omega
         subst this;exact hc
       ·simp only [hc,decide_false,bP]
        exact ⟨_,rfl,⟨h1,by dsimp only;omega,by dsimp only;omega,h4, .inr (by dsimp only;omega)⟩,by dsimp only;omega⟩
      ·simp only [hlt,decide_false,bP]
       obtain rfl:lo=hi:=by omega
       exact ⟨_,rfl,h1,h3,h4,h5⟩) (0,67108864) ⟨by decide,by decide,by decide,fun m h1 h2=>by dsimp only at h2;omega, .inl rfl⟩
  obtain ⟨y,hy,h1,h2,h3,h4⟩:=key
  refine ⟨y,?_,h1,h2,h3,h4⟩
  have hmm:y*y≤67108864*67108864:=XM (by omega) (by omega)
  have hmm0:=Rg y
  unfold Fu
  rw [hy,lB,F5 (by omega)]
/-- The least number whose square is not less. -/
noncomputable def rt (n:Int):Int:=(Jd n).choose
theorem BH (n:Int):Fu n=some (rt n,rt n*rt n==n):=(Jd n).choose_spec.1
theorem FY (n:Int):0≤rt n:=(Jd n).choose_spec.2.1
theorem nY (n m:Int)(h1:0≤m)(h2:m<rt n):m*m<n:=(Jd n).choose_spec.2.2.2.1 m h1 h2
theorem nZ (n:Int):rt n=67108864∨n≤rt n*rt n:=(Jd n).choose_spec.2.2.2.2
theorem fK {l:Int}(h0:0≤l)(h1:l≤67108864):rt (l*l)=l:=by
  rcases Int.lt_trichotomy (rt (l*l)) l with q|q|q
  ·rcases nZ (l*l)with h|h
   ·omega
   ·have h2:=FY (l*l)
    have:=Int.mul_lt_mul' (show rt (l*l)≤l by omega) q h2 (by omega);omega
  ·exact q
  ·have:=nY (l*l) l h0 q;omega
theorem IB (n:Int)(h0:0≤n)(h1:n<18014398509481984): ∃r,Kf n=some r∧0≤r∧r<134217728∧r*r≤n∧n< (r+1)* (r+1):=by
  have key:=RW (f:=Lu n) (fun x=>0≤x.1∧x.1*x.1≤n∧((∃k:Nat,k≤26∧x.2=2^k∧x.1+2*2^k≤134217728∧n< (x.1+2*2^k)* (x.1+2*2^k))∨(x.2=0∧x.1<134217728∧n< (x.1+1)* (x.1+1)))) (fun x=>x.2.toNat)
    (fun r=>0≤r∧r<134217728∧r*r≤n∧n< (r+1)* (r+1)) (by
      rintro ⟨r,bit⟩ ⟨q1,q2,q3⟩
      dsimp only at q1 q2 q3
      unfold Lu
      dsimp only
      rcases q3 with ⟨k,hk,rfl,q4,q5⟩|⟨rfl,q4,q5⟩
      ·have hp:(0:Int)<2^k:=Int.pow_pos (by decide)
       generalize hb:(2:Int)^k=b at*
       have e1:D6 (r+b)=r+b:=F5 (by omega)
       have hmm:(r+b)* (r+b)≤134217728*134217728:=XM (by omega) (by omega)
       have hmm0:=Rg (r+b)
       have e2:D6 ((r+b)* (r+b))=(r+b)* (r+b):=F5 (by omega)
       have e3:D6 (b.tdiv 2)=b / 2:=by rw [wP (by omega)];exact F5 (by omega)
       have hb0:b>0:=by omega
       simp only [e1,e2,e3,hb0,decide_true,bO]
       have hnext: ∀r',0≤r'→r'*r'≤n→r'+b≤134217728→n< (r'+b)* (r'+b)→(∃j:Nat,j≤26∧b / 2=2^j∧r'+2*2^j≤134217728∧n< (r'+2*2^j)* (r'+2*2^j))∨(b / 2=0∧r'<134217728∧n< (r'+1)* (r'+1)):=by
         intro r' a1 a2 a3 a4
         cases k with
         |zero=>
          have:b=1:=by rw [← hb];rfl
          subst this
          exact .inr ⟨by decide,by omega,a4⟩
         |succ j=>
          have hj:b=2*2^j:=by rw [← hb,Int.pow_succ];omega
          refine .inl ⟨j,by omega,by omega,by omega,by rw [← hj];exact a4⟩
       by_cases hc:(r+b)* (r+b)≤n
       ·simp only [hc,decide_true,bO]
        refine ⟨_,rfl,⟨by dsimp only;omega,hc,hnext (r+b) (by omega) hc (by omega) (by rw [show r+b+b=r+2*b by omega];exact q5)⟩,by dsimp only;omega⟩
       ·simp only [hc,decide_false,bP]
        exact ⟨_,rfl,⟨q1,q2,hnext r q1 q2 (by omega) (by omega)⟩,by dsimp only;omega⟩
      ·simp only [show ¬(0:Int)>0 by decide,decide_false,bP]
       exact ⟨_,rfl,q1,q4,q2,q5⟩) (0,67108864) ⟨by decide,by dsimp only;omega, .inl ⟨26,by decide,by decide,by decide,by dsimp only;omega⟩⟩
  obtain ⟨r,hr,a⟩:=key
  exact ⟨r,by unfold Kf;rw [hr];rfl,a⟩
theorem MM {n:Int}(h0:0≤n)(h1:n≤4503599627370496): ∃r,Kf n=some r∧0≤r∧r<134217728∧(r*r=n↔rt n*rt n=n)∧(r*r=n→r=rt n):=by
  obtain ⟨r,hr,a1,a2,a3,a4⟩:=IB n h0 (by omega)
  have hr26:r≤67108864:=by
    rcases Int.lt_or_le r 67108865 with q|q
    ·omega
    ·have:=Int.mul_le_mul q q (by decide) (by omega);omega
  refine ⟨r,hr,a1,a2,⟨fun h=> ?_,fun h=> ?_⟩,fun h=> ?_⟩
  ·rw [← h,fK a1 hr26]
  ·rcases Int.lt_trichotomy r (rt n)with q|q|q
   ·have:=Int.mul_le_mul (show r+1≤rt n by omega) (show r+1≤rt n by omega) (by omega) (FY n);omega
   ·rw [q];exact h
   ·have h2:=FY n
    have:=Int.mul_lt_mul' (show rt n≤r by omega) q h2 (by omega);omega
  ·rw [← h,fK a1 hr26]
def Wa (p:Spot):Bool:=decide (-16777216≤p.X)&&decide (p.X≤16777216)&&decide (-16777216≤p.Y)&&decide (p.Y≤16777216)
theorem okS_iff {p:Spot}:Wa p=true↔ -16777216≤p.X∧p.X≤16777216∧ -16777216≤p.Y∧p.Y≤16777216:=by simp [Wa,and_assoc]
theorem ZS (p:Spot):((decide ((Mg false p.X p.Y)< (-16777216)))||(decide ((Mg true p.X p.Y)>16777216)))= !Wa p:=by
  rw [Cx,Lx]
  cases h:Wa p with
  |true=>have:=okS_iff.1 h;simp;omega
  |false=>
   have: ¬(-16777216≤p.X∧p.X≤16777216∧ -16777216≤p.Y∧p.Y≤16777216):=fun q=>by rw [okS_iff.2 q]at h;cases h
   simp;omega
theorem MN (l:List Spot)(hl:l.length≤1000000): ∀(r:List Spot) (i:Nat),l.drop i=r→loop (Ft l) (i:Int)=some (if r.all Wa then .inl ()else .inr false):=by
  intro r
  induction r with
  |nil=>
   intro i hi
   have:=N8 hi
   refine C6 ?_
   unfold Ft
   simp only [show ¬(i:Int)<l.length by omega,decide_false,bP,List.all_nil,if_true]
  |cons p r ih=>
   intro i hi
   have hlt:=M9 hi
   have hstep:Ft l (i:Int)=if Wa p then some (.go ((i+1:Nat):Int))else some (.out (.inr false)):=by
     unfold Ft
     simp only [show (i:Int)<l.length by omega,decide_true,bO,Ce hi,lB,ZS]
     cases h:Wa p with
     |true=>simp only [bW,bP,if_true];rw [F5 (by omega)];rfl
     |false=>simp
   cases h:Wa p with
   |true=>
    rw [h,bQ rfl]at hstep
    rw [J2 hstep,ih (i+1) (K5 hi)]
    simp [h]
   |false=>
    rw [h]at hstep
    rw [C6 hstep]
    simp [h]
theorem MO (l:List Spot)(hl:l.length≤1000000):Jy l=some (l.all Wa):=by
  unfold Jy
  have:=MN l hl l 0 (by simp)
  rw [show ((0:Nat):Int)=0 from rfl]at this
  rw [this]
  cases l.all Wa<;>rfl
theorem KP (p:Spot):Px p=some (Wa p):=by
  unfold Px Wa;rfl
def R5 (p q:Spot):CurveVector:=⟨q.X - p.X,q.Y - p.Y⟩
def N3 (v w:CurveVector):Int:=v.x*w.x+v.y*w.y
/-- A vector between valid spots. -/
def cC (v:CurveVector):Prop:= -33554432≤v.x∧v.x≤33554432∧ -33554432≤v.y∧v.y≤33554432
theorem EO {p q:Spot}(hp:Wa p=true)(hq:Wa q=true):cC (R5 p q):=by
  have:=okS_iff.1 hp;have:=okS_iff.1 hq
  unfold cC R5;dsimp only;omega
theorem BI {p q:Spot}(hp:Wa p=true)(hq:Wa q=true):Ot p q=some (R5 p q):=by
  have:=okS_iff.1 hp;have:=okS_iff.1 hq
  unfold Ot R5
  rw [F5 (by omega),F5 (by omega)]
theorem VU {v w:CurveVector}(hv:cC v)(hw:cC w): -2251799813685248≤N3 v w∧N3 v w≤2251799813685248∧(-1125899906842624≤v.x*w.x∧v.x*w.x≤1125899906842624)∧ -1125899906842624≤v.y*w.y∧v.y*w.y≤1125899906842624:=by
  obtain ⟨a1,a2,a3,a4⟩:=hv
  obtain ⟨b1,b2,b3,b4⟩:=hw
  have h1:=eU ⟨a1,a2⟩ ⟨b1,b2⟩
  have h2:=eU ⟨a3,a4⟩ ⟨b3,b4⟩
  unfold N3
  omega
theorem Wb {v w:CurveVector}(hv:cC v)(hw:cC w):Bb v w=some (N3 v w):=by
  have h:=VU hv hw
  unfold Bb
  rw [F5 (n:=v.x*w.x) (by omega),F5 (n:=v.y*w.y) (by omega),F5 (by unfold N3 at h;omega)]
  rfl
theorem VV (v:CurveVector):0≤N3 v v:=by have:=Rg v.x;have:=Rg v.y;unfold N3;omega
def vs (v:CurveVector):Spot:=⟨v.x,v.y⟩
theorem Sm {p q:Spot}(hp:Wa p=true)(hq:Wa q=true):Ke q p=some (vs (R5 p q)):=by
  have:=okS_iff.1 hp;have:=okS_iff.1 hq
  unfold Ke R5 vs
  rw [F5 (by omega),F5 (by omega)]
theorem Wc {v w:CurveVector}(hv:cC v)(hw:cC w):Mx (vs v) (vs w)=some (N3 v w):=by
  have h:=VU hv hw
  unfold Mx vs
  dsimp only
  rw [F5 (n:=v.x*w.x) (by omega),F5 (n:=v.y*w.y) (by omega),F5 (by unfold N3 at h;omega)]
  rfl
/-- The error of a chain of points, from a piece on; the piece ahead of it. -/
noncomputable def SQ:Option CurveVector→List Spot→Int
  |last,p::q::r=>
   if rt (N3 (R5 p q) (R5 p q))*rt (N3 (R5 p q) (R5 p q))≠N3 (R5 p q) (R5 p q)then 3
   else if rt (N3 (R5 p q) (R5 p q))<1000∨rt (N3 (R5 p q) (R5 p q))>1048576 then 2
   else match last with
     |some u=>if N3 u (R5 p q)≤0 then 12 else SQ (some (R5 p q)) (q::r)
     |none=>SQ (some (R5 p q)) (q::r)
  |_,_=>0
theorem EP (last:Option CurveVector)(p q:Spot)(r:List Spot):SQ last (p::q::r)=
    if rt (N3 (R5 p q) (R5 p q))*rt (N3 (R5 p q) (R5 p q))≠N3 (R5 p q) (R5 p q)then 3
    else if rt (N3 (R5 p q) (R5 p q))<1000∨rt (N3 (R5 p q) (R5 p q))>1048576 then 2
    else match last with
      |some u=>if N3 u (R5 p q)≤0 then 12 else SQ (some (R5 p q)) (q::r)
      |none=>SQ (some (R5 p q)) (q::r):=by
  conv=>lhs;unfold SQ
noncomputable def Ct (l:List Spot):Int:=if l.length<2 then 6 else if l.length>16 then 5 else if l.all Wa then SQ none l else 2
theorem KQ (c:Curve)(hl:c.Pts.length≤1000000)(hok:c.Pts.all Wa=true): ∀(r:List Spot) (p:Spot) (i:Nat) (last:CurveVector),c.Pts.drop i=p::r→cC last→
    loop (X9 c) ((i:Int),last)=some (if SQ (if i=0 then none else some last) (p::r)=0 then .inl ()else .inr (SQ (if i=0 then none else some last) (p::r))):=by
  intro r
  induction r with
  |nil=>
   intro p i last hi hlast
   have hlt:=M9 hi
   have:=N8 (K5 hi)
   refine C6 ?_
   unfold X9
   dsimp only
   rw [F5 (n:=(c.Pts.length:Int) - 1) (by omega)]
   simp only [show ¬(i:Int)< (c.Pts.length:Int) - 1 by omega,decide_false,bP,SQ,if_true]
  |cons q r ih=>
   intro p i last hi hlast
   have hlt:=M9 hi
   have hi1:=K5 hi
   have hlt1:=M9 hi1
   have hp:Wa p=true:=lY.1 hok p (List.mem_of_mem_drop (i:=i) (by rw [hi];simp))
   have hq:Wa q=true:=lY.1 hok q (List.mem_of_mem_drop (i:=i) (by rw [hi];simp))
   have hv:=EO hp hq
   have hg1:C0 c.Pts ((i:Int)+1)=some q:=by have:=Ce hi1;simpa using this
   have hstep:X9 c ((i:Int),last)=
    if rt (N3 (R5 p q) (R5 p q))*rt (N3 (R5 p q) (R5 p q))≠N3 (R5 p q) (R5 p q)then some (.out (.inr 3))
    else if rt (N3 (R5 p q) (R5 p q))<1000∨rt (N3 (R5 p q) (R5 p q))>1048576 then some (.out (.inr 2))
    else if i≠0∧N3 last (R5 p q)≤0 then some (.out (.inr 12))else some (.go (((i+1:Nat):Int),R5 p q)):=by
     unfold X9
     dsimp only
     rw [F5 (n:=(c.Pts.length:Int) - 1) (by omega),F5 (n:=(i:Int)+1) (by omega)]
     simp only [show (i:Int)< (c.Pts.length:Int) - 1 by omega,decide_true,bO,Ce hi,hg1,lB,BI hp hq,Wb hv hv,BH]
     by_cases h1:rt (N3 (R5 p q) (R5 p q))*rt (N3 (R5 p q) (R5 p q))=N3 (R5 p q) (R5 p q)
     ·simp only [h1,beq_self_eq_true,bW,bP,ne_eq,not_true_eq_false,if_false]
      by_cases h2:rt (N3 (R5 p q) (R5 p q))<1000∨rt (N3 (R5 p q) (R5 p q))>1048576
      ·rw [bQ h2]
       have:(decide (rt (N3 (R5 p q) (R5 p q))<1000)||decide (rt (N3 (R5 p q) (R5 p q))>1048576))=true:=by simpa using h2
       rw [this];rfl
      ·rw [bR h2]
       have:(decide (rt (N3 (R5 p q) (R5 p q))<1000)||decide (rt (N3 (R5 p q) (R5 p q))>1048576))=false:=by simpa using h2
       rw [this]
       simp only [bP]
       by_cases h3:i=0
       ·subst h3
        simp only [Int.natCast_zero,gt_iff_lt,Int.lt_irrefl,decide_false,bP,bT,lB,not_true_eq_false,false_and,if_false]
        rfl
       ·have h4:(i:Int)>0:=by omega
        simp only [h4,decide_true,bO,Wb hlast hv,lB,bS,h3,not_false_eq_true,true_and]
        by_cases h5:N3 last (R5 p q)≤0<;>simp [h5]
     ·have:(rt (N3 (R5 p q) (R5 p q))*rt (N3 (R5 p q) (R5 p q))==N3 (R5 p q) (R5 p q))=false:=by simpa using h1
      simp only [this,bX,bO,ne_eq,h1,not_false_eq_true,if_true]
   rw [EP]
   by_cases h1:rt (N3 (R5 p q) (R5 p q))*rt (N3 (R5 p q) (R5 p q))≠N3 (R5 p q) (R5 p q)
   ·rw [bQ h1]at hstep
    rw [C6 hstep,bQ h1];rfl
   ·rw [bR h1]at hstep ⊢
    by_cases h2:rt (N3 (R5 p q) (R5 p q))<1000∨rt (N3 (R5 p q) (R5 p q))>1048576
    ·rw [bQ h2]at hstep
     rw [C6 hstep,bQ h2];rfl
    ·rw [bR h2]at hstep ⊢
     by_cases h3:i=0
     ·subst h3
      rw [bR (by simp)]at hstep
      rw [J2 hstep,ih q (0+1) (R5 p q) hi1 hv]
      simp
     ·by_cases h5:N3 last (R5 p q)≤0
      ·rw [bQ ⟨h3,h5⟩]at hstep
       rw [C6 hstep]
       simp [h3,h5]
      ·rw [bR (fun h=>h5 h.2)]at hstep
       rw [J2 hstep,ih q (i+1) (R5 p q) hi1 hv]
       simp [h3,h5]
theorem Zb (c:Curve)(hl:c.Pts.length≤1000000):Fa c=some (Ct c.Pts):=by
  unfold Fa Ct
  by_cases h1:c.Pts.length<2
  ·rw [bQ h1,show decide ((c.Pts.length:Int)<2)=true by simp;omega];rfl
  ·rw [bR h1,show decide ((c.Pts.length:Int)<2)=false by simp;omega]
   simp only [bP]
   by_cases h2:c.Pts.length>16
   ·rw [bQ h2,show decide ((c.Pts.length:Int)>16)=true by simp;omega];rfl
   ·rw [bR h2,show decide ((c.Pts.length:Int)>16)=false by simp;omega]
    simp only [bP,MO c.Pts hl,lB]
    cases h3:c.Pts.all Wa with
    |false=>rfl
    |true=>
     simp only [bW,bP,if_true]
     cases hp:c.Pts with
     |nil=>rw [hp]at h1;simp at h1
     |cons p r=>
      have:=KQ c hl h3 r p 0 ⟨0,0⟩ (by rw [hp];rfl) ⟨by decide,by decide,by decide,by decide⟩
      rw [bQ rfl,show ((0:Nat):Int)=0 from rfl]at this
      rw [this]
      by_cases h4:SQ none (p::r)=0
      ·rw [bQ h4,h4];rfl
      ·rw [bR h4];rfl
theorem ZT (v w:CurveVector):N3 v w=N3 w v:=by unfold N3;rw [Int.mul_comm v.x,Int.mul_comm v.y]
theorem IC (c:Curve)(hl:c.Pts.length≤1000000): ∀(r:List Spot) (i:Nat),c.Pts.drop i=r→loop (Ea c) (i:Int)=some (if r.all Wa then .inl ()else .inr 2):=by
  intro r
  induction r with
  |nil=>
   intro i hi
   have:=N8 hi
   refine C6 ?_
   unfold Ea
   simp only [show ¬(i:Int)<c.Pts.length by omega,decide_false,bP,List.all_nil,if_true]
  |cons p r ih=>
   intro i hi
   have hlt:=M9 hi
   have hstep:Ea c (i:Int)=if Wa p then some (.go ((i+1:Nat):Int))else some (.out (.inr 2)):=by
     unfold Ea
     simp only [show (i:Int)<c.Pts.length by omega,decide_true,bO,Ce hi,lB,KP]
     cases h:Wa p with
     |true=>simp only [bW,bP,if_true];rw [F5 (by omega)];rfl
     |false=>simp
   cases h:Wa p with
   |true=>
    rw [h,bQ rfl]at hstep
    rw [J2 hstep,ih (i+1) (K5 hi)]
    simp [h]
   |false=>
    rw [h]at hstep
    rw [C6 hstep]
    simp [h]
theorem fL {v:CurveVector}(hv:cC v): ∃l,Kf (N3 v v)=some l∧(D6 (l*l) !=N3 v v)= !(rt (N3 v v)*rt (N3 v v)==N3 v v)∧(rt (N3 v v)*rt (N3 v v)=N3 v v→l=rt (N3 v v)):=by
  have hb:=VU hv hv
  obtain ⟨l,h1,h2,h3,h4,h5⟩:=MM (VV v) (by omega)
  have hmm:l*l≤134217728*134217728:=XM (by omega) (by omega)
  have hmm0:=Rg l
  refine ⟨l,h1,?_,fun h=>h5 (h4.2 h)⟩
  rw [F5 (by omega)]
  by_cases h:l*l=N3 v v
  ·simp [h,h4.1 h]
  ·have h': ¬rt (N3 v v)*rt (N3 v v)=N3 v v:=fun q=>h (h4.2 q)
   have e1:(l*l !=N3 v v)=true:=bne_iff_ne.2 h
   have e2:(rt (N3 v v)*rt (N3 v v)==N3 v v)=false:=beq_eq_false_iff_ne.2 h'
   rw [e1,e2];rfl
theorem ID (c:Curve)(hl:c.Pts.length≤1000000)(hok:c.Pts.all Wa=true): ∀(r:List Spot) (p:Spot) (i:Nat) (last:Option CurveVector),c.Pts.drop i=p::r→
    (i=0∧last=none∨∃j a,i=j+1∧c.Pts.drop j=a::p::r∧last=some (R5 a p))→
    loop (Dz c) (i:Int)=some (if SQ last (p::r)=0 then .inl ()else .inr (SQ last (p::r))):=by
  intro r
  induction r with
  |nil=>
   intro p i last hi hlast
   have hlt:=M9 hi
   have:=N8 (K5 hi)
   refine C6 ?_
   unfold Dz
   rw [F5 (n:=(i:Int)+1) (by omega)]
   simp only [show ¬(i:Int)+1< (c.Pts.length:Int) by omega,decide_false,bP,SQ,if_true]
  |cons q r ih=>
   intro p i last hi hlast
   have hlt:=M9 hi
   have hi1:=K5 hi
   have hlt1:=M9 hi1
   have hp:Wa p=true:=lY.1 hok p (List.mem_of_mem_drop (i:=i) (by rw [hi];simp))
   have hq:Wa q=true:=lY.1 hok q (List.mem_of_mem_drop (i:=i) (by rw [hi];simp))
   have hv:=EO hp hq
   have hg1:C0 c.Pts ((i:Int)+1)=some q:=by have:=Ce hi1;simpa using this
   obtain ⟨l,hl1,hl2,hl3⟩:=fL hv
   have hstep:Dz c (i:Int)=
    if rt (N3 (R5 p q) (R5 p q))*rt (N3 (R5 p q) (R5 p q))≠N3 (R5 p q) (R5 p q)then some (.out (.inr 3))
    else if rt (N3 (R5 p q) (R5 p q))<1000∨rt (N3 (R5 p q) (R5 p q))>1048576 then some (.out (.inr 2))
    else match last with
      |some u=>if N3 u (R5 p q)≤0 then some (.out (.inr 12))else some (.go ((i+1:Nat):Int))
      |none=>some (.go ((i+1:Nat):Int)):=by
     unfold Dz
     rw [F5 (n:=(i:Int)+1) (by omega)]
     simp only [show (i:Int)+1< (c.Pts.length:Int) by omega,decide_true,bO,Ce hi,hg1,lB,Sm hp hq,Wc hv hv,hl1,hl2]
     by_cases h1:rt (N3 (R5 p q) (R5 p q))*rt (N3 (R5 p q) (R5 p q))=N3 (R5 p q) (R5 p q)
     ·simp only [h1,beq_self_eq_true,bW,bP,ne_eq,not_true_eq_false,if_false,hl3 h1]
      by_cases h2:rt (N3 (R5 p q) (R5 p q))<1000∨rt (N3 (R5 p q) (R5 p q))>1048576
      ·rw [bQ h2]
       have:(decide (rt (N3 (R5 p q) (R5 p q))<1000)||decide (rt (N3 (R5 p q) (R5 p q))>1048576))=true:=by simpa using h2
       rw [this];rfl
      ·rw [bR h2]
       have:(decide (rt (N3 (R5 p q) (R5 p q))<1000)||decide (rt (N3 (R5 p q) (R5 p q))>1048576))=false:=by simpa using h2
       rw [this]
       simp only [bP]
       rcases hlast with ⟨rfl,rfl⟩|⟨j,a,rfl,hj,rfl⟩
       ·simp only [Int.natCast_zero,gt_iff_lt,Int.lt_irrefl,decide_false,bP,bT,lB]
        rfl
       ·have h4:(((j+1:Nat):Int))>0:=by omega
        have ha:Wa a=true:=lY.1 hok a (List.mem_of_mem_drop (i:=j) (by rw [hj];simp))
        have hva:=EO ha hp
        have hgj:C0 c.Pts (D6 (((j+1:Nat):Int) - 1))=some a:=by
          rw [F5 (by omega),show (((j+1:Nat):Int) - 1)=(j:Int) by omega]
          exact Ce hj
        simp only [h4,decide_true,bO,hgj,lB,Sm ha hp,Wc hv hva,bS]
        rw [ZT (R5 p q) (R5 a p)]
        by_cases h5:N3 (R5 a p) (R5 p q)≤0
        ·simp [h5]
        ·simp [h5]
     ·have:(rt (N3 (R5 p q) (R5 p q))*rt (N3 (R5 p q) (R5 p q))==N3 (R5 p q) (R5 p q))=false:=by simpa using h1
      simp only [this,bX,bO,ne_eq,h1,not_false_eq_true,if_true]
   rw [EP]
   have hrec:=ih q (i+1) (some (R5 p q)) hi1 (.inr ⟨i,p,rfl,hi,rfl⟩)
   by_cases h1:rt (N3 (R5 p q) (R5 p q))*rt (N3 (R5 p q) (R5 p q))≠N3 (R5 p q) (R5 p q)
   ·rw [bQ h1]at hstep
    rw [C6 hstep,bQ h1];rfl
   ·rw [bR h1]at hstep ⊢
    by_cases h2:rt (N3 (R5 p q) (R5 p q))<1000∨rt (N3 (R5 p q) (R5 p q))>1048576
    ·rw [bQ h2]at hstep
     rw [C6 hstep,bQ h2];rfl
    ·rw [bR h2]at hstep ⊢
     cases last with
     |none=>rw [J2 hstep,hrec]
     |some u=>
      dsimp only at hstep ⊢
      by_cases h5:N3 u (R5 p q)≤0
      ·rw [bQ h5]at hstep
       rw [C6 hstep];simp [h5]
      ·rw [bR h5]at hstep
       rw [J2 hstep,hrec];simp [h5]
theorem Zc (c:Curve)(hl:c.Pts.length≤1000000):My c=some (Ct c.Pts):=by
  unfold My Ct
  by_cases h1:c.Pts.length<2
  ·rw [bQ h1,show decide ((c.Pts.length:Int)<2)=true by simp;omega];rfl
  ·rw [bR h1,show decide ((c.Pts.length:Int)<2)=false by simp;omega]
   simp only [bP]
   by_cases h2:c.Pts.length>16
   ·rw [bQ h2,show decide ((c.Pts.length:Int)>16)=true by simp;omega];rfl
   ·rw [bR h2,show decide ((c.Pts.length:Int)>16)=false by simp;omega]
    have hg:=IC c hl c.Pts 0 (by simp)
    rw [show ((0:Nat):Int)=0 from rfl]at hg
    simp only [bP,hg]
    cases h3:c.Pts.all Wa with
    |false=>rfl
    |true=>
     simp only [if_true,thenS]
     cases hp:c.Pts with
     |nil=>rw [hp]at h1;simp at h1
     |cons p r=>
      have:=ID c hl h3 r p 0 none (by rw [hp];rfl) (.inl ⟨rfl,rfl⟩)
      rw [show ((0:Nat):Int)=0 from rfl]at this
      rw [this]
      by_cases h4:SQ none (p::r)=0
      ·rw [bQ h4,h4]
      ·rw [bR h4]
/-- What a valid chain is. -/
inductive Good:Option CurveVector→List Spot→Prop
  |one (last:Option CurveVector) (p:Spot):Good last [p]
  |cons (last:Option CurveVector) (p q:Spot) (r:List Spot) (h1:rt (N3 (R5 p q) (R5 p q))*rt (N3 (R5 p q) (R5 p q))=N3 (R5 p q) (R5 p q)) (h2:1000≤rt (N3 (R5 p q) (R5 p q))) (h3:rt (N3 (R5 p q) (R5 p q))≤1048576)
     (h4: ∀u,last=some u→0<N3 u (R5 p q)) (h:Good (some (R5 p q)) (q::r)):Good last (p::q::r)
theorem SR: ∀(r:List Spot) (p:Spot) (last:Option CurveVector),SQ last (p::r)=0→Good last (p::r):=by
  intro r
  induction r with
  |nil=>intro p last _;exact .one _ _
  |cons q r ih=>
   intro p last h
   rw [EP]at h
   split at h
   ·cases h
   ·rename_i h1
    split at h
    ·cases h
    ·rename_i h2
     have h1:rt (N3 (R5 p q) (R5 p q))*rt (N3 (R5 p q) (R5 p q))=N3 (R5 p q) (R5 p q):=by simpa using h1
     cases last with
     |none=>exact .cons _ _ _ _ h1 (by omega) (by omega) (fun u hu=>by cases hu) (ih q _ h)
     |some u=>
      dsimp only at h
      split at h
      ·cases h
      ·exact .cons _ _ _ _ h1 (by omega) (by omega) (fun u' hu=>by cases hu;omega) (ih q _ h)
theorem SS {last:Option CurveVector}{l:List Spot}(h:Good last l):SQ last l=0:=by
  induction h with
  |one=>rfl
  |cons last p q r h1 h2 h3 h4 h ih=>
   rw [EP,bR (by simpa using h1),bR (by omega)]
   cases last with
   |none=>exact ih
   |some u=>dsimp only;rw [bR (by have:=h4 u rfl;omega)];exact ih
structure Valid (l:List Spot):Prop where
  two:2≤l.length
  most:l.length≤16
  ok:l.all Wa=true
  good:Good none l
theorem checkM_zero {l:List Spot}:Ct l=0↔Valid l:=by
  unfold Ct
  constructor
  ·intro h
   split at h
   ·cases h
   ·rename_i h1
    split at h
    ·cases h
    ·rename_i h2
     split at h
     ·rename_i h3
      cases l with
      |nil=>simp at h1
      |cons p r=>exact ⟨by omega,by omega,h3,SR r p none h⟩
     ·cases h
  ·rintro ⟨h1,h2,h3,h4⟩
   rw [bR (by omega),bR (by omega),bQ h3]
   exact SS h4
/-- The pieces of a chain: the number, the piece. -/
noncomputable def Wd:Nat→Int→List Spot→List (Int×CurvePiece)
  |i,s,p::q::r=>((i:Int),⟨p,R5 p q,rt (N3 (R5 p q) (R5 p q)),s⟩)::Wd (i+1) (D6 (s+rt (N3 (R5 p q) (R5 p q)))) (q::r)
  |_,_,_=> []
theorem EQ (i:Nat)(s:Int)(p q:Spot)(r:List Spot):Wd i s (p::q::r)=((i:Int),⟨p,R5 p q,rt (N3 (R5 p q) (R5 p q)),s⟩)::Wd (i+1) (D6 (s+rt (N3 (R5 p q) (R5 p q)))) (q::r):=by conv=>lhs;unfold Wd
theorem ST (pts:List Spot)(hok:pts.all Wa=true): ∀(r:List Spot) (p:Spot) (i:Nat) (s:Int),pts.drop i=p::r→Ix pts r.length i s=some (Wd i s (p::r)):=by
  intro r
  induction r with
  |nil=>intro p i s _;rfl
  |cons q r ih=>
   intro p i s hi
   have hi1:=K5 hi
   have hp:Wa p=true:=lY.1 hok p (List.mem_of_mem_drop (i:=i) (by rw [hi];simp))
   have hq:Wa q=true:=lY.1 hok q (List.mem_of_mem_drop (i:=i) (by rw [hi];simp))
   have hv:=EO hp hq
   have h0:pts[i]? =some p:=by have:=congrArg (fun z=>z[0]?) hi;simpa using this
   have h1:pts[i+1]? =some q:=by have:=congrArg (fun z=>z[0]?) hi1;simpa using this
   rw [lL,Ix,h0,h1]
   simp only [lB,BI hp hq,Wb hv hv,BH]
   rw [ih q (i+1) _ hi1,EQ]
   rfl
theorem VW {pts:List Spot}(h:Valid pts):Tk pts=some (Wd 0 0 pts):=by
  unfold Tk
  have:=h.most
  rw [bQ (by omega)]
  cases hp:pts with
  |nil=>have:=h.two;rw [hp]at this;simp at this
  |cons p r=>exact ST (p::r) (by rw [← hp];exact h.ok) r p 0 0 rfl
/-- The lengths. -/
noncomputable def AL:List Spot→List Int
  |p::q::r=>rt (N3 (R5 p q) (R5 p q))::AL (q::r)
  |_=> []
theorem Ut (p q:Spot)(r:List Spot):AL (p::q::r)=rt (N3 (R5 p q) (R5 p q))::AL (q::r):=by conv=>lhs;unfold AL
theorem Tm: ∀(r:List Spot) (p:Spot),(AL (p::r)).length=r.length
  | [],_=>rfl
  |q::r,p=>by rw [Ut,lL,Tm r q,lL]
theorem ER: ∀(r:List Spot) (p:Spot) (i:Nat) (s:Int),(Wd i s (p::r)).map (·.2.l)=AL (p::r)
  | [],_,_,_=>rfl
  |q::r,p,i,s=>by rw [EQ,Ut,lR,ER r q]
theorem SU: ∀(L:List (Int×CurvePiece)) (out:List Int),out.length+L.length≤1000000000→loopL Er (fun x=>x) L out=some (out++L.map (·.2.l)):=by
  intro L
  induction L with
  |nil=>intro out _;simp [loopL]
  |cons a L ih=>
   intro out h
   simp only [lL]at h
   have:Er out a=some (.go (out++ [a.2.l])):=by
     unfold Er
     rw [Ey (by simp;omega)];rfl
   rw [loopL,this]
   dsimp only
   rw [ih _ (by simp;omega)]
   simp
theorem IE (c:Curve)(hl:c.Pts.length≤1000000):Fb c=some (if Ct c.Pts=0 then AL c.Pts else []):=by
  unfold Fb
  rw [Zb c hl,lB]
  by_cases h:Ct c.Pts=0
  ·rw [bQ h,h]
   have hv:=checkM_zero.1 h
   have:=hv.most
   simp only [bne_self_eq_false,bP,VW hv,lB]
   cases hp:c.Pts with
   |nil=>have:=hv.two;rw [hp]at this;simp at this
   |cons p r=>
    have e:=ER r p 0 0
    rw [SU _ _ (by
     have:=congrArg List.length e
     rw [lS,Tm]at this
     rw [this];rw [hp]at hl;simp at hl ⊢;omega)]
    rw [e];rfl
  ·rw [bR h,show (Ct c.Pts !=0)=true from bne_iff_ne.2 h];rfl
theorem ES (c:Curve)(hl:c.Pts.length≤1000000)(hok:c.Pts.all Wa=true): ∀(r:List Spot) (p:Spot) (i:Nat) (out:List Int) (last:Option CurveVector),c.Pts.drop i=p::r→Good last (p::r)→out.length+r.length≤1000000→
    loop (Cr c) (out,(i:Int))=some (out++AL (p::r)):=by
  intro r
  induction r with
  |nil=>
   intro p i out last hi _ _
   have hlt:=M9 hi
   have:=N8 (K5 hi)
   refine C6 ?_
   unfold Cr
   dsimp only
   rw [F5 (n:=(i:Int)+1) (by omega)]
   simp only [show ¬(i:Int)+1< (c.Pts.length:Int) by omega,decide_false,bP,AL,lP]
  |cons q r ih=>
   intro p i out last hi hg ho
   have hlt:=M9 hi
   have hi1:=K5 hi
   have hlt1:=M9 hi1
   have hp:Wa p=true:=lY.1 hok p (List.mem_of_mem_drop (i:=i) (by rw [hi];simp))
   have hq:Wa q=true:=lY.1 hok q (List.mem_of_mem_drop (i:=i) (by rw [hi];simp))
   have hv:=EO hp hq
   have hg1:C0 c.Pts ((i:Int)+1)=some q:=by have:=Ce hi1;simpa using this
   obtain ⟨l,hl1,hl2,hl3⟩:=fL hv
   cases hg with
   |cons _ _ _ _ h1 h2 h3 h4 hg=>
    have hll:=hl3 h1
    subst hll
    simp only [lL]at ho
    have hstep:Cr c (out,(i:Int))=some (.go (out++ [rt (N3 (R5 p q) (R5 p q))],((i+1:Nat):Int))):=by
      unfold Cr
      dsimp only
      rw [F5 (n:=(i:Int)+1) (by omega)]
      simp only [show (i:Int)+1< (c.Pts.length:Int) by omega,decide_true,bO,Ce hi,hg1,lB,Sm hp hq,Wc hv hv,hl1]
      rw [Ey (by simp;omega)]
      rfl
    rw [J2 hstep,ih q (i+1) _ _ hi1 hg (by simp;omega),Ut]
    simp
theorem IF (c:Curve)(hl:c.Pts.length≤1000000):Ny c=some (if Ct c.Pts=0 then AL c.Pts else []):=by
  unfold Ny
  rw [Zc c hl,lB]
  by_cases h:Ct c.Pts=0
  ·rw [bQ h,h]
   have hv:=checkM_zero.1 h
   simp only [bne_self_eq_false,bP]
   cases hp:c.Pts with
   |nil=>have:=hv.two;rw [hp]at this;simp at this
   |cons p r=>
    have:=ES c hl hv.ok r p 0 [] none (by rw [hp];rfl) (by rw [← hp];exact hv.good) (by rw [hp]at hl;simp at hl ⊢;omega)
    rw [show ((0:Nat):Int)=0 from rfl]at this
    rw [this];rfl
  ·rw [bR h,show (Ct c.Pts !=0)=true from bne_iff_ne.2 h];rfl
/-- A sum, as the programs take it. -/
def CP:Int→List Int→Int
  |s,[]=>s
  |s,a::l=>CP (D6 (s+a)) l
theorem ET (l:List Int)(hl:l.length≤1000000): ∀(r:List Int) (i:Nat) (s:Int),l.drop i=r→loop (An l) (s,(i:Int))=some (CP s r):=by
  intro r
  induction r with
  |nil=>
   intro i s hi
   have:=N8 hi
   refine C6 ?_
   unfold An
   simp only [show ¬(i:Int)<l.length by omega,decide_false,bP,CP]
  |cons a r ih=>
   intro i s hi
   have hlt:=M9 hi
   have hstep:An l (s,(i:Int))=some (.go (D6 (s+a),((i+1:Nat):Int))):=by
     unfold An
     simp only [show (i:Int)<l.length by omega,decide_true,bO,Ce hi,lB]
     rw [F5 (n:=(i:Int)+1) (by omega)];rfl
   rw [J2 hstep,ih (i+1) _ (K5 hi),CP]
theorem EU (l:List Int)(hl:l.length≤1000000): ∀(r:List Int) (i:Nat) (s:Int),l.drop i=r→loop (Aq l) (s,(i:Int))=some (CP s r):=by
  intro r
  induction r with
  |nil=>
   intro i s hi
   have:=N8 hi
   refine C6 ?_
   unfold Aq
   simp only [show ¬(i:Int)<l.length by omega,decide_false,bP,CP]
  |cons a r ih=>
   intro i s hi
   have hlt:=M9 hi
   have hstep:Aq l (s,(i:Int))=some (.go (D6 (s+a),((i+1:Nat):Int))):=by
     unfold Aq
     simp only [show (i:Int)<l.length by omega,decide_true,bO,Ce hi,lB]
     rw [F5 (n:=(i:Int)+1) (by omega)];rfl
   rw [J2 hstep,ih (i+1) _ (K5 hi),CP]
noncomputable def Me (c:Curve):List Int:=if Ct c.Pts=0 then AL c.Pts else []
theorem jY: ∀l:List Spot,(AL l).length≤l.length
  | []=>by simp [AL]
  |p::r=>by rw [Tm];simp
theorem KR (c:Curve):(Me c).length≤c.Pts.length:=by
  unfold Me
  split
  ·exact jY _
  ·simp
theorem Wx (c:Curve)(hl:c.Pts.length≤1000000):Cz c=some (CP 0 (Me c)):=by
  unfold Cz
  rw [IE c hl,lB]
  have:=KR c
  have h:=ET (Me c) (by omega) (Me c) 0 0 (by simp)
  rw [show ((0:Nat):Int)=0 from rfl]at h
  show (loop (An (Me c)) (0,0)).bind _=_
  rw [h];rfl
theorem IG (c:Curve)(hl:c.Pts.length≤1000000):Fk c=some (CP 0 (Me c)):=by
  unfold Fk
  rw [IF c hl,lB]
  have:=KR c
  have h:=EU (Me c) (by omega) (Me c) 0 0 (by simp)
  rw [show ((0:Nat):Int)=0 from rfl]at h
  show (loop (Aq (Me c)) (0,0)).bind _=_
  rw [h];rfl
/-- A quarter turn, so many times. -/
def ZU:Nat→CurveVector→CurveVector
  |0,v=>v
  |n+1,v=>ZU n ⟨-v.y,v.x⟩
theorem QC: ∀(n:Nat) (v w:CurveVector),N3 (ZU n v) (ZU n w)=N3 v w
  |0,_,_=>rfl
  |n+1,v,w=>by rw [ZU,ZU,QC n];unfold N3;grind
/-- A piece's vector, made of numbers: in one quadrant. -/
def oA (n:Nat)(v:CurveVector):Prop:= ∃x y L:Int,v=ZU n ⟨x,y⟩∧0<x∧0≤y∧x*x+y*y=L*L∧1000≤L∧L≤3029∧x≤L∧y≤L
inductive Ch (Q:CurveVector→Prop):List Spot→Prop
  |one (p:Spot):Ch Q [p]
  |cons (p q:Spot) (r:List Spot) (h:Q (R5 p q)) (hr:Ch Q (q::r)):Ch Q (p::q::r)
theorem KS {n:Nat}: ∀(r:List Spot) (p:Spot) (last:Option CurveVector),Ch (oA n) (p::r)→(∀u,last=some u→oA n u)→Good last (p::r)
  | [],p,last,_,_=> .one _ _
  |q::r,p,last,hc,hl=>by
   cases hc with
   |cons _ _ _ h1 h2=>
    have hq:=h1
    obtain ⟨x,y,L,hv,hx,hy,hsq,hL1,hL2,hxL,hyL⟩:=h1
    have hd:N3 (R5 p q) (R5 p q)=L*L:=by rw [hv,QC];unfold N3;exact hsq
    have hrt:rt (N3 (R5 p q) (R5 p q))=L:=by rw [hd];exact fK (by omega) (by omega)
    refine .cons _ _ _ _ (by rw [hrt,hd]) (by rw [hrt];exact hL1) (by rw [hrt];omega) (fun u hu=> ?_) (KS r q _ h2 (fun u hu=>by cases hu;exact hq))
    obtain ⟨x',y',L',hv',hx',hy',_⟩:=hl u hu
    rw [hv,hv',QC]
    unfold N3
    have:=Int.mul_pos hx' hx
    have:=wO hy' hy
    dsimp only
    omega
/-- What the curves made of numbers are like. -/
structure Made (l:List Spot):Prop where
  two:2≤l.length
  six:l.length≤6
  ch: ∃n,Ch (oA n) l
  bd: ∀p∈l, -50000≤p.X∧p.X≤50000∧ -50000≤p.Y∧p.Y≤50000
theorem Made.valid {l:List Spot}(h:Made l):Valid l:=by
  obtain ⟨n,hc⟩:=h.ch
  have:=h.two;have:=h.six
  refine ⟨h.two,by omega,lY.2 fun p hp=>okS_iff.2 (by have:=h.bd p hp;omega),?_⟩
  match l,h,hc with
  |p::r,_,hc=>exact KS r p none hc (fun u hu=>by cases hu)
  | [],h,_=>exact absurd h.two (by simp)
/-! ### Loops that look for the first error -/
def H9 {α β:Type}(g:Nat→α→Option β):Nat→List α→Option β
  |_,[]=>none
  |i,a::r=>match g i a with
   |some e=>some e
   |none=>H9 g (i+1) r
def FZ {β:Type}:Option β→Sum Unit β
  |some e=> .inr e
  |none=> .inl ()
theorem X7 {α β:Type}(l:List α)(F:Int→Option (Stp Int (Sum Unit β)))(g:Nat→α→Option β)(hF: ∀(i:Nat) a,l[i]? =some a→F (i:Int)=some (match g i a with|some e=> .out (.inr e)|none=> .go ((i+1:Nat):Int)))(h0:F (l.length:Int)=some (.out (.inl ()))):
    loop F 0=some (FZ (H9 g 0 l)):=by
  have key: ∀(r:List α) (i:Nat),l.drop i=r→i≤l.length→loop F (i:Int)=some (FZ (H9 g i r)):=by
    intro r
    induction r with
    |nil=>
     intro i hi hil
     have:i=l.length:=by have:=List.drop_eq_nil_iff.1 hi;omega
     subst this
     exact C6 h0
    |cons a r ih=>
     intro i hi hil
     have hlt:i<l.length:=by
       rcases Nat.lt_or_ge i l.length with q|q
       ·exact q
       ·rw [List.drop_eq_nil_of_le q]at hi;cases hi
     have ha:l[i]? =some a:=by have:=congrArg (fun z=>z[0]?) hi;simpa using this
     have hr:l.drop (i+1)=r:=by have:=congrArg (fun z=>z.drop 1) hi;simpa using this
     have hs:=hF i a ha
     unfold H9
     cases hg:g i a with
     |some e=>rw [hg]at hs;exact C6 hs
     |none=>rw [hg]at hs;rw [J2 hs];exact ih (i+1) hr (by omega)
  have:=key l 0 rfl (by omega)
  exact this
theorem firstE_none {α β:Type}{g:Nat→α→Option β}: ∀{l:List α} {i:Nat},H9 g i l=none↔∀(j:Nat) a,l[j]? =some a→g (i+j) a=none
  | [],i=>by simp [H9]
  |a::r,i=>by
   unfold H9
   cases h:g i a with
   |some e=>
    constructor
    ·intro h';cases h'
    ·intro h';have:=h' 0 a rfl;rw [Nat.add_zero,h]at this;cases this
   |none=>
    dsimp only
    rw [firstE_none (l:=r)]
    constructor
    ·intro h' j b hj
     cases j with
     |zero=>cases hj;exact h
     |succ j=>have:=h' j b hj;rwa [show i+1+j=i+ (j+1) by omega]at this
    ·intro h' j b hj
     have:=h' (j+1) b hj
     rwa [show i+ (j+1)=i+1+j by omega]at this
/-! ### Numbers -/
def Vg (n a b:Int):Bool:=decide (a≤n)&&decide (n≤b)
theorem Rn (n a b:Int):Cy n a b=some (Vg n a b):=rfl
theorem Sn (n a b:Int):Dc n a b=some (Vg n a b):=rfl
def V9 (kind:Int):Int×Int×Int:=if kind=1 then (2000,30,90)else if kind=2 then (1000,20,60)else if kind=3 then (300,100,300)else (0,0,0)
theorem Uu (k:Int):Ez k=some (V9 k):=by
  unfold Ez V9
  by_cases h:k<0∨k≥4
  ·rw [show ((decide (k<0))||(decide (k≥4)))=true by simpa using h,bO,bR (by omega),bR (by omega),bR (by omega)]
  ·rw [show ((decide (k<0))||(decide (k≥4)))=false by rw [bZ];simpa using h,bP]
   obtain ⟨h1,h2⟩:=not_or.1 h
   rcases (show k=0∨k=1∨k=2∨k=3 by omega)with rfl|rfl|rfl|rfl<;>rfl
theorem Pd (k:Int):Dd k=some (V9 k):=by
  unfold Dd V9
  by_cases h1:k=1
  ·subst h1;rfl
  ·by_cases h2:k=2
   ·subst h2;rfl
   ·by_cases h3:k=3
    ·subst h3;rfl
    ·rw [bR h1,bR h2,bR h3]
     rw [show (k==1)=false by simpa using h1,show (k==2)=false by simpa using h2,show (k==3)=false by simpa using h3];rfl
theorem QN {n:Int}(h: -9223372036854775808≤n∧n≤9223372036854775807):D6 n=n:=Go.IntWalk.i64_in n h
theorem C3 {α:Type}{l:List α}{i:Nat}{a:α}(h:l[i]? =some a):C0 l (i:Int)=some a:=by
  unfold C0;rw [bQ (by omega),wF];exact h
theorem G9 {α:Type}{l:List α}{i:Nat}{a:α}(h:l[i]? =some a):i<l.length:=(lI.1 h).1
theorem IL {α:Type}(c:Bool)(a b:α):cond c (some a) (some b)=some (cond c a b):=by cases c<;>rfl
def Ck (high:Int):Int→List Int→Bool
  |_,[]=>true
  |low,n::r=>decide (low≤n)&&decide (n<high)&&Ck high (n+1) r
theorem GA (l:List Int)(low high:Int)(hl:l.length≤1000000)(hh:high≤1000000000)(h0:0≤low):Bl l low high=some (Ck high low l):=by
  have key: ∀(r:List Int) (i:Nat) (lo:Int),0≤lo→l.drop i=r→i≤l.length→loop (Co l high) (lo,(i:Int))=some (if Ck high lo r then .inl ()else .inr false):=by
    intro r
    induction r with
    |nil=>
     intro i lo _ hi hil
     have:=N8 hi
     refine C6 ?_
     unfold Co
     dsimp only
     rw [show decide ((i:Int)< (l.length:Int))=false from bK (by omega)];rfl
    |cons n r ih=>
     intro i lo hlo hi hil
     have hlt:=M9 hi
     have hs:Co l high (lo,(i:Int))=some (if decide (lo≤n)&&decide (n<high)then .go (n+1,((i+1:Nat):Int))else .out (.inr false)):=by
       unfold Co
       dsimp only
       rw [show decide ((i:Int)< (l.length:Int))=true from bJ (by omega),Ce hi,bO,lB,QN (n:=(i:Int)+1) (by omega)]
       by_cases q:lo≤n∧n<high
       ·rw [show ((decide (n<lo))||(decide (n≥high)))=false by rw [bZ];simp;omega,bP,QN (n:=n+1) (by omega),bQ (by simpa using q)];rfl
       ·rw [show ((decide (n<lo))||(decide (n≥high)))=true by simp;omega,bO,bR (by simpa using q)]
     unfold Ck
     cases q:(decide (lo≤n)&&decide (n<high))
     ·rw [q]at hs;rw [C6 hs];rfl
     ·rw [q]at hs
      simp only [bU,bM]at q
      rw [J2 hs,ih (i+1) (n+1) (by omega) (K5 hi) (by omega)];rfl
  unfold Bl
  have:=key l 0 low h0 rfl (by omega)
  rw [show ((0:Nat):Int)=0 from rfl]at this
  rw [this]
  cases Ck high low l<;>rfl
theorem CQ (l:List Int)(low high:Int)(hl:l.length≤1000000):Gf l low high=some (Ck high low l):=by
  have key: ∀(r:List Int) (i:Nat) (lo:Int),low≤lo→(i=0→lo=low)→(0<i→l[i - 1]? =some (lo - 1))→l.drop i=r→i≤l.length→loop (Bd l low high) (i:Int)=some (if Ck high lo r then .inl ()else .inr false):=by
    intro r
    induction r with
    |nil=>
     intro i lo _ _ _ hi hil
     have:=N8 hi
     refine C6 ?_
     unfold Bd
     rw [show decide ((i:Int)< (l.length:Int))=false from bK (by omega)];rfl
    |cons n r ih=>
     intro i lo hlo h0 h1 hi hil
     have hlt:=M9 hi
     have hn:l[i]? =some n:=by have:=congrArg (fun z=>z[0]?) hi;simpa using this
     have hs:Bd l low high (i:Int)=some (if decide (lo≤n)&&decide (n<high)then .go ((i+1:Nat):Int)else .out (.inr false)):=by
       unfold Bd
       rw [show decide ((i:Int)< (l.length:Int))=true from bJ (by omega),Ce hi,bO,lB,IL,lB,IL,lB,QN (n:=(i:Int)+1) (by omega)]
       by_cases q1:n<low
       ·rw [bJ q1,bR (by simp;omega)];rfl
       ·rw [bK q1]
        simp only [bX,bO,bY]
        by_cases q2:n≥high
        ·rw [bJ q2,bR (by simp;omega)];rfl
        ·rw [bK q2]
         simp only [bX,bS,bY]
         by_cases q3:(i:Int)>0
         ·have e:C0 l (D6 ((i:Int) - 1))=some (lo - 1):=by
            rw [QN (n:=(i:Int) - 1) (by omega),show (i:Int) - 1=((i - 1:Nat):Int) by omega]
            exact C3 (h1 (by omega))
          rw [bJ q3,bO,bO,e,lB,bS]
          by_cases q4:n≤lo - 1
          ·rw [bJ q4,bR (by simp;omega)];rfl
          ·rw [bK q4,bQ (by simp;omega)];rfl
         ·have:lo=low:=h0 (by omega)
          rw [bK q3,bP,lB,bT,bQ (by simp;omega)];rfl
     unfold Ck
     cases q:(decide (lo≤n)&&decide (n<high))
     ·rw [q]at hs;rw [C6 hs];rfl
     ·rw [q]at hs
      simp only [bU,bM]at q
      rw [J2 hs,ih (i+1) (n+1) (by omega) (fun z=>by omega) (fun _=>by rw [Nat.add_sub_cancel,hn];congr 1;omega) (K5 hi) (by omega)];rfl
  unfold Gf
  have:=key l 0 low (Int.le_refl _) (fun _=>rfl) (fun z=>by omega) rfl (by omega)
  rw [show ((0:Nat):Int)=0 from rfl]at this
  rw [this]
  cases Ck high low l<;>rfl
noncomputable def Rc (c:Curve):Int:=CP 0 (Me c)
theorem jZ {m:Map}{i:Nat}{l:Lane}(h:m.Lanes[i]? =some l)(hl:l.Curve_.Pts.length≤1000000):Cq m (i:Int)=some (Rc l.Curve_):=by
  unfold Cq
  rw [C3 h,lB,Wx _ hl];rfl
/-- The lists of a map are of bearable lengths. -/
structure Bear (m:Map):Prop where
  lanes:m.Lanes.length≤1000000
  pts: ∀l∈m.Lanes,l.Curve_.Pts.length≤1000000∧l.Next.length≤1000000
noncomputable def laneE (n:Nat)(i:Nat)(l:Lane):Option Int:=
  if (V9 l.Kind).1=0 then some 4
  else if Ct l.Curve_.Pts≠0 then some (Ct l.Curve_.Pts)
  else if (Vg l.Half 200 4000&&Vg l.Limit 1 (V9 l.Kind).1)=false then some 2
  else if 3<l.Next.length then some 8
  else if Ck n (i+1) l.Next=false then some 11 else none
theorem fM {m:Map}(B:Bear m):V1 ⟨m⟩=some ((H9 (laneE m.Lanes.length) 0 m.Lanes).getD 0):=by
  have h:=X7 m.Lanes (Q8 ⟨m⟩) (laneE m.Lanes.length) (fun i l hl=>by
    have hi:=G9 hl
    have hb:=B.lanes
    obtain ⟨p1,p2⟩:=B.pts l (lG hl)
    unfold Q8 laneE
    dsimp only
    rw [show decide ((i:Int)< (m.Lanes.length:Int))=true from bJ (by omega),C3 hl,bO,lB,Uu,lB,Zb _ p1,lB,Rn,Rn,lB,IL,lB,QN (n:=(i:Int)+1) (by omega),GA _ _ _ p2 (by omega) (by omega),lB]
    by_cases h1:(V9 l.Kind).1=0
    ·rw [bQ h1,show ((V9 l.Kind).1==0)=true by simpa using h1];rfl
    ·rw [bR h1,show ((V9 l.Kind).1==0)=false by simpa using h1,bP]
     by_cases h2:Ct l.Curve_.Pts≠0
     ·rw [bQ h2,show (Ct l.Curve_.Pts !=0)=true by simpa using h2];rfl
     ·rw [bR h2,show (Ct l.Curve_.Pts !=0)=false by simpa using h2,bP]
      cases Vg l.Half 200 4000
      ·rfl
      ·cases Vg l.Limit 1 (V9 l.Kind).1
       ·rfl
       ·simp only [bW,bX,bO,bP,bY,Bool.and_self]
        rw [bR (by decide)]
        by_cases h3:3<l.Next.length
        ·rw [bQ h3,show decide ((l.Next.length:Int)>3)=true from bJ (by omega)];rfl
        ·rw [bR h3,show decide ((l.Next.length:Int)>3)=false from bK (by omega),bP]
         cases Ck (m.Lanes.length:Int) ((i:Int)+1) l.Next<;>rfl) (by
    unfold Q8
    dsimp only
    rw [show decide ((m.Lanes.length:Int)< (m.Lanes.length:Int))=false from bK (by omega)];rfl)
  unfold V1
  rw [h]
  cases H9 (laneE m.Lanes.length) 0 m.Lanes<;>rfl
theorem fN (k:Int):((decide (k<1))||(decide (k>3)))=decide ((V9 k).1=0):=by
  unfold V9
  by_cases h1:k=1
  ·subst h1;rfl
  ·by_cases h2:k=2
   ·subst h2;rfl
   ·by_cases h3:k=3
    ·subst h3;rfl
    ·rw [bR h1,bR h2,bR h3]
     simp only [decide_true,bV,bM]
     omega
theorem fO {m:Map}(B:Bear m){i:Nat}{l:Lane}(hl:m.Lanes[i]? =some l):Iy m (i:Int)=some ((laneE m.Lanes.length i l).getD 0):=by
  have hi:=G9 hl
  have hb:=B.lanes
  obtain ⟨p1,p2⟩:=B.pts l (lG hl)
  unfold Iy laneE
  rw [C3 hl,lB,fN,Zc _ p1,lB,Pd,lB,Sn,Sn,lB,IL,lB,QN (n:=(i:Int)+1) (by omega),CQ _ _ _ p2,lB]
  by_cases h1:(V9 l.Kind).1=0
  ·rw [bQ h1,bJ h1];rfl
  ·rw [bR h1,bK h1,bP]
   by_cases h2:Ct l.Curve_.Pts≠0
   ·rw [bQ h2,show (Ct l.Curve_.Pts !=0)=true by simpa using h2];rfl
   ·rw [bR h2,show (Ct l.Curve_.Pts !=0)=false by simpa using h2,bP]
    cases Vg l.Half 200 4000
    ·rfl
    ·cases Vg l.Limit 1 (V9 l.Kind).1
     ·rfl
     ·simp only [bW,bX,bO,bP,bY,Bool.and_self]
      rw [bR (by decide)]
      by_cases h3:3<l.Next.length
      ·rw [bQ h3,show decide ((l.Next.length:Int)>3)=true from bJ (by omega)];rfl
      ·rw [bR h3,show decide ((l.Next.length:Int)>3)=false from bK (by omega),bP]
       cases Ck (m.Lanes.length:Int) ((i:Int)+1) l.Next<;>rfl
theorem KT {n i:Nat}{l:Lane}{e:Int}(h:laneE n i l=some e):e≠0:=by
  unfold laneE at h
  split at h
  ·cases h;decide
  ·split at h
   ·rename_i h2;cases h;exact h2
   ·split at h
    ·cases h;decide
    ·split at h
     ·cases h;decide
     ·split at h
      ·cases h;decide
      ·cases h
theorem SV {m:Map}(B:Bear m):loop (Eb m) 0=some (FZ (H9 (laneE m.Lanes.length) 0 m.Lanes)):=
  X7 m.Lanes (Eb m) (laneE m.Lanes.length) (fun i l hl=>by
   have hi:=G9 hl
   have hb:=B.lanes
   unfold Eb
   rw [show decide ((i:Int)< (m.Lanes.length:Int))=true from bJ (by omega),fO B hl,bO,lB,QN (n:=(i:Int)+1) (by omega)]
   cases h:laneE m.Lanes.length i l with
   |none=>rfl
   |some e=>
    rw [Option.getD_some,show (e !=0)=true by simpa using KT h];rfl) (by
   unfold Eb
   rw [show decide ((m.Lanes.length:Int)< (m.Lanes.length:Int))=false from bK (by omega)];rfl)
theorem Lc {high:Int}: ∀{l:List Int} {low:Int},Ck high low l=true→∀k∈l,low≤k∧k<high
  | [],_,_,k,hk=>by cases hk
  |n::r,low,h,k,hk=>by
   unfold Ck at h
   simp only [bU,bM]at h
   rcases lU.1 hk with rfl|hk
   ·exact h.1
   ·have:=Lc h.2 k hk
    omega
/-- What a lane is that has no error of its own. -/
structure LaneOK (n i:Nat)(l:Lane):Prop where
  kind:(V9 l.Kind).1≠0
  curve:Ct l.Curve_.Pts=0
  half:Vg l.Half 200 4000=true
  limit:Vg l.Limit 1 (V9 l.Kind).1=true
  few:l.Next.length≤3
  next:Ck n (i+1) l.Next=true
theorem VX {n i:Nat}{l:Lane}(h:laneE n i l=none):LaneOK n i l:=by
  unfold laneE at h
  split at h
  ·cases h
  ·rename_i h1
   split at h
   ·cases h
   ·rename_i h2
    split at h
    ·cases h
    ·rename_i h3
     split at h
     ·cases h
     ·rename_i h4
      split at h
      ·cases h
      ·rename_i h5
       simp only [Bool.not_eq_false,bU]at h3
       exact ⟨h1,Decidable.not_not.1 h2,h3.1,h3.2,by omega,by simpa using h5⟩
theorem Zd {m:Map}(h:H9 (laneE m.Lanes.length) 0 m.Lanes=none){i:Nat}{l:Lane}(hl:m.Lanes[i]? =some l):LaneOK m.Lanes.length i l:=by
  have:=firstE_none.1 h i l hl
  rw [wK]at this
  exact VX this
theorem GB {l:List Spot}(h:Ct l=0):2≤l.length:=by
  unfold Ct at h
  split at h
  ·cases h
  ·omega
def BJ (l:List Spot):Spot:=l.headD ⟨0,0⟩
def Wy (l:List Spot):Spot:=l.getLastD ⟨0,0⟩
theorem NP {l:List Spot}(h:2≤l.length):C0 l 0=some (BJ l):=by
  cases l with
  |nil=>simp at h
  |cons a r=>rfl
theorem NQ {l:List Spot}(h:2≤l.length)(hl:l.length≤1000000):C0 l (D6 ((l.length:Int) - 1))=some (Wy l):=by
  rw [QN (by omega),show (l.length:Int) - 1=((l.length - 1:Nat):Int) by omega]
  refine C3 ?_
  unfold Wy
  rw [List.getLastD_eq_getLast?,List.getLast?_eq_getElem?]
  rw [lH (by omega)];rfl
def SW (a b:Spot):Bool:=a.X==b.X&& (a.Y==b.Y&&true)
def Ze (m:Map)(l:Lane)(_:Nat)(k:Int):Option Int:=
  match m.Lanes[k.toNat]? with
  |some n=>if n.Kind≠l.Kind then some 4 else if SW (BJ n.Curve_.Pts) (Wy l.Curve_.Pts)=false then some 3 else none
  |none=>none
def nextE (m:Map)(_:Nat)(l:Lane):Option Int:=H9 (Ze m l) 0 l.Next
theorem KU {m:Map}(B:Bear m)(H:H9 (laneE m.Lanes.length) 0 m.Lanes=none){i:Nat}{l:Lane}(hl:m.Lanes[i]? =some l){j:Nat}{k:Int}(hk:l.Next[j]? =some k):
    ∃n,C0 m.Lanes k=some n∧m.Lanes[k.toNat]? =some n∧2≤n.Curve_.Pts.length∧n.Curve_.Pts.length≤1000000:=by
  have L:=Zd H hl
  have hb:=Lc L.next k (lG hk)
  have hlt:k.toNat<m.Lanes.length:=by omega
  refine ⟨m.Lanes[k.toNat],?_,lH hlt,GB (Zd H (lH hlt)).curve,(B.pts _ (List.getElem_mem hlt)).1⟩
  unfold C0
  rw [bQ (by omega),lH hlt]
theorem ZV {m:Map}{l:Lane}{j:Nat}{k e:Int}(h:Ze m l j k=some e):e≠0:=by
  unfold Ze at h
  split at h
  ·split at h
   ·cases h;decide
   ·split at h
    ·cases h;decide
    ·cases h
  ·cases h
theorem NR {m:Map}(B:Bear m)(H:H9 (laneE m.Lanes.length) 0 m.Lanes=none){i:Nat}{l:Lane}(hl:m.Lanes[i]? =some l):
    loop (X6 ⟨m⟩ l (Wy l.Curve_.Pts)) 0=some (FZ (nextE m i l))∧loop (Be m l) 0=some (FZ (nextE m i l)):=by
  have L:=Zd H hl
  obtain ⟨p1,p2⟩:=B.pts l (lG hl)
  constructor
  ·refine X7 l.Next _ (Ze m l) (fun j k hk=> ?_) ?_
   ·have hj:=G9 hk
    obtain ⟨n,g1,g2,g3,g4⟩:=KU B H hl hk
    unfold X6 Ze
    dsimp only
    rw [show decide ((j:Int)< (l.Next.length:Int))=true from bJ (by omega),C3 hk,bO,lB,g1,lB,lB,NP g3,lB,QN (n:=(j:Int)+1) (by omega),g2]
    dsimp only
    rw [show ((BJ n.Curve_.Pts).X==(Wy l.Curve_.Pts).X&& ((BJ n.Curve_.Pts).Y==(Wy l.Curve_.Pts).Y&&true))=SW (BJ n.Curve_.Pts) (Wy l.Curve_.Pts) from rfl]
    by_cases h1:n.Kind≠l.Kind
    ·rw [bQ h1,show (n.Kind !=l.Kind)=true by simpa using h1];rfl
    ·rw [bR h1,show (n.Kind !=l.Kind)=false by simpa using h1]
     cases SW (BJ n.Curve_.Pts) (Wy l.Curve_.Pts)<;>rfl
   ·unfold X6
    rw [show decide ((l.Next.length:Int)< (l.Next.length:Int))=false from bK (by omega)];rfl
  ·refine X7 l.Next _ (Ze m l) (fun j k hk=> ?_) ?_
   ·have hj:=G9 hk
    obtain ⟨n,g1,g2,g3,g4⟩:=KU B H hl hk
    unfold Be Ze
    rw [show decide ((j:Int)< (l.Next.length:Int))=true from bJ (by omega),C3 hk,bO,lB,g1,lB,NP g3,lB,NQ (GB L.curve) p1,lB,QN (n:=(j:Int)+1) (by omega),g2]
    dsimp only
    rw [show ((BJ n.Curve_.Pts).X==(Wy l.Curve_.Pts).X&& ((BJ n.Curve_.Pts).Y==(Wy l.Curve_.Pts).Y&&true))=SW (BJ n.Curve_.Pts) (Wy l.Curve_.Pts) from rfl]
    by_cases h1:n.Kind≠l.Kind
    ·rw [bQ h1,show (n.Kind !=l.Kind)=true by simpa using h1];rfl
    ·rw [bR h1,show (n.Kind !=l.Kind)=false by simpa using h1]
     cases SW (BJ n.Curve_.Pts) (Wy l.Curve_.Pts)<;>rfl
   ·unfold Be
    rw [show decide ((l.Next.length:Int)< (l.Next.length:Int))=false from bK (by omega)];rfl
theorem NS {m:Map}(B:Bear m)(H:H9 (laneE m.Lanes.length) 0 m.Lanes=none):
    T8 ⟨m⟩=some ((H9 (nextE m) 0 m.Lanes).getD 0)∧Iz m=some ((H9 (nextE m) 0 m.Lanes).getD 0):=by
  have hb:=B.lanes
  constructor
  ·have h:=X7 m.Lanes (P8 ⟨m⟩) (nextE m) (fun i l hl=>by
     have hi:=G9 hl
     have L:=Zd H hl
     obtain ⟨p1,p2⟩:=B.pts l (lG hl)
     unfold P8
     dsimp only
     rw [show decide ((i:Int)< (m.Lanes.length:Int))=true from bJ (by omega),C3 hl,bO,lB,NQ (GB L.curve) p1,lB,(NR B H hl).1,QN (n:=(i:Int)+1) (by omega)]
     cases nextE m i l<;>rfl) (by
     unfold P8
     dsimp only
     rw [show decide ((m.Lanes.length:Int)< (m.Lanes.length:Int))=false from bK (by omega)];rfl)
   unfold T8
   rw [h]
   cases H9 (nextE m) 0 m.Lanes<;>rfl
  ·have h:=X7 m.Lanes (Bf m) (nextE m) (fun i l hl=>by
     have hi:=G9 hl
     unfold Bf
     rw [show decide ((i:Int)< (m.Lanes.length:Int))=true from bJ (by omega),C3 hl,bO,lB,(NR B H hl).2,QN (n:=(i:Int)+1) (by omega)]
     cases nextE m i l<;>rfl) (by
     unfold Bf
     rw [show decide ((m.Lanes.length:Int)< (m.Lanes.length:Int))=false from bK (by omega)];rfl)
   unfold Iz
   rw [h]
   cases H9 (nextE m) 0 m.Lanes<;>rfl
/-- The place of the first element with a property. -/
theorem KV {α:Type}{f:Int→Option (Stp Int (Sum Unit Int))}(l:List α)(P:α→Bool)(hl:l.length≤1000000000)(hf: ∀(i:Nat) a,l[i]? =some a→f (i:Int)=some (if P a then .out (.inr (i:Int))else .go (D6 ((i:Int)+1))))(he:f (l.length:Int)=some (.out (.inl ()))):
    loop f 0=some (match l.findIdx? P with|some i=> .inr (i:Int)|none=> .inl ()):=by
  have key: ∀(r:List α) (i:Nat),l.drop i=r→i≤l.length→loop f (i:Int)=some (match r.findIdx? P with|some j=> .inr ((i+j:Nat):Int)|none=> .inl ()):=by
    intro r
    induction r with
    |nil=>
     intro i hi hil
     have:=N8 hi
     obtain rfl:i=l.length:=by omega
     rw [C6 he];rfl
    |cons a r ih=>
     intro i hi _
     have hlt:=M9 hi
     have h0:l[i]? =some a:=by have:=congrArg (fun z=>z[0]?) hi;simpa using this
     have hs:=hf i a h0
     rw [List.findIdx?_cons]
     by_cases hp:P a=true
     ·rw [bQ hp]at hs
      rw [C6 hs,bQ hp];simp
     ·rw [bR hp]at hs
      rw [F5 (by omega)]at hs
      rw [J2 hs,show ((i:Int)+1)=((i+1:Nat):Int) by omega,ih (i+1) (K5 hi) (by omega),bR hp]
      cases r.findIdx? P with
      |none=>rfl
      |some j=>simp only [lF];congr 3;omega
  have:=key l 0 rfl (by omega)
  rw [show ((0:Nat):Int)=0 from rfl]at this
  rw [this]
  cases l.findIdx? P<;>simp
/-- -1, or the place. -/
def EV {α:Type}(P:α→Bool)(l:List α):Int:=match l.findIdx? P with|some i=>(i:Int)|none=> -1
theorem Uv {α:Type}(P:α→Bool)(l:List α):decide (EV P l≥0)=l.any P:=by
  unfold EV
  cases h:l.findIdx? P with
  |none=>
   have:=List.findIdx?_eq_none_iff.1 h
   rw [show l.any P=false by rw [List.any_eq_false];intro x hx;simpa using this x hx]
   decide
  |some i=>
   have:=List.findIdx?_isSome (xs:=l) (p:=P)
   rw [h]at this
   rw [← this]
   simp
/-- What both twins compute of a list. -/
theorem Qa {α:Type}{f:Int→Option (Stp Int (Sum Unit Int))}(l:List α)(P:α→Bool)(hl:l.length≤1000000000)(hf: ∀(i:Nat) a,l[i]? =some a→f (i:Int)=some (if P a then .out (.inr (i:Int))else .go (D6 ((i:Int)+1))))(he:f (l.length:Int)=some (.out (.inl ()))):
    thenS (loop f 0) (fun _=>some (-1)) (fun r=>some r)=some (EV P l):=by
  rw [KV l P hl hf he]
  unfold EV
  cases l.findIdx? P<;>rfl
theorem ZW (l:List Phase)(hl:l.length≤1000000):F2 l=some (l.any fun p=> !Vg p.Ticks 1 10000):=by
  unfold F2 H5
  rw [Qa l (fun p=> !Vg p.Ticks 1 10000) (by omega) (fun i a h=>by
   have:=G9 h
   unfold K3 Eh
   rw [show decide ((i:Int)< (l.length:Int))=true from bJ (by omega),C3 h,bO,lB,Rn,lB,lB]
   cases Vg a.Ticks 1 10000<;>rfl) (by
   unfold K3
   simp)]
  rw [lB,Uv]
theorem VY (m:Map)(l:List Phase)(hl:l.length≤1000000)(hm:m.Lanes.length≤1000000)(hg: ∀p∈l,p.Green.length≤1000000):F1 l ⟨m⟩=some (l.any fun p=> !Ck m.Lanes.length 0 p.Green):=by
  unfold F1 G8
  rw [Qa l (fun p=> !Ck m.Lanes.length 0 p.Green) (by omega) (fun i a h=>by
   have:=G9 h
   unfold F0 S9
   dsimp only
   rw [show decide ((i:Int)< (l.length:Int))=true from bJ (by omega),C3 h,bO,lB,GA _ _ _ (hg a (lG h)) (by omega) (by omega),lB,lB]
   cases Ck (m.Lanes.length:Int) 0 a.Green<;>rfl) (by
   unfold F0
   simp)]
  rw [lB,Uv]
structure BearS (m:Map):Prop where
  many:m.Signals.length≤1000000
  phases: ∀s∈m.Signals,s.Phases.length≤1000000∧∀p∈s.Phases,p.Green.length≤1000000
def signalE (m:Map)(_:Nat)(s:Signal):Option Int:=
  if s.Phases.length=0 then some 6
  else if 6<s.Phases.length then some 8
  else if Vg s.Offset 0 1099511627776=false then some 2
  else if (s.Phases.any fun p=> !Vg p.Ticks 1 10000)=true then some 2
  else if (s.Phases.any fun p=> !Ck m.Lanes.length 0 p.Green)=true then some 11 else none
theorem VZ {m:Map}(B:Bear m)(S:BearS m):S5 ⟨m⟩=some ((H9 (signalE m) 0 m.Signals).getD 0):=by
  have h:=X7 m.Signals (P0 ⟨m⟩) (signalE m) (fun i s hs=>by
    have hi:=G9 hs
    have hb:=S.many
    obtain ⟨p1,p2⟩:=S.phases s (lG hs)
    unfold P0 signalE
    dsimp only
    rw [show decide ((i:Int)< (m.Signals.length:Int))=true from bJ (by omega),C3 hs,bO,lB,Rn,lB,ZW _ p1,lB,VY m _ p1 B.lanes p2,lB,QN (n:=(i:Int)+1) (by omega)]
    by_cases h1:s.Phases.length=0
    ·rw [bQ h1,h1];rfl
    ·rw [bR h1,show ((s.Phases.length:Int)==0)=false by simp only [beq_eq_false_iff_ne];omega,bP]
     by_cases h2:6<s.Phases.length
     ·rw [bQ h2,show decide ((s.Phases.length:Int)>6)=true from bJ (by omega)];rfl
     ·rw [bR h2,show decide ((s.Phases.length:Int)>6)=false from bK (by omega),bP]
      cases Vg s.Offset 0 1099511627776
      ·rfl
      ·cases (s.Phases.any fun p=> !Vg p.Ticks 1 10000)
       ·cases (s.Phases.any fun p=> !Ck m.Lanes.length 0 p.Green)<;>rfl
       ·rfl) (by
    unfold P0
    dsimp only
    rw [show decide ((m.Signals.length:Int)< (m.Signals.length:Int))=false from bK (by omega)];rfl)
  unfold S5
  rw [h]
  cases H9 (signalE m) 0 m.Signals<;>rfl
theorem SX (s:Signal)(hl:s.Phases.length≤1000000): ∀(r:List Phase) (i:Nat) (b:Bool),s.Phases.drop i=r→i≤s.Phases.length→loop (W4 s) (b,(i:Int))=some (b&& !(r.any fun p=> !Vg p.Ticks 1 10000)):=by
  intro r
  induction r with
  |nil=>
   intro i b hi hil
   have:=N8 hi
   refine C6 ?_
   unfold W4
   dsimp only
   rw [show decide ((i:Int)< (s.Phases.length:Int))=false from bK (by omega)]
   simp
  |cons p r ih=>
   intro i b hi hil
   have hlt:=M9 hi
   have hs:W4 s (b,(i:Int))=some (.go (b&&Vg p.Ticks 1 10000,((i+1:Nat):Int))):=by
     unfold W4
     dsimp only
     rw [show decide ((i:Int)< (s.Phases.length:Int))=true from bJ (by omega),Ce hi,QN (n:=(i:Int)+1) (by omega)]
     cases b<;>rfl
   rw [J2 hs,ih (i+1) _ (K5 hi) (by omega),bH]
   cases b<;>cases Vg p.Ticks 1 10000<;>simp
theorem QD (m:Map)(s:Signal)(hl:s.Phases.length≤1000000)(hg: ∀p∈s.Phases,p.Green.length≤1000000):loop (W3 m s) 0=some (if (s.Phases.any fun p=> !Ck m.Lanes.length 0 p.Green)=true then .inr 11 else .inl ()):=by
  have h:=X7 s.Phases (W3 m s) (fun _ p=>if Ck m.Lanes.length 0 p.Green then none else some 11) (fun i p hp=>by
    have:=G9 hp
    unfold W3
    rw [show decide ((i:Int)< (s.Phases.length:Int))=true from bJ (by omega),C3 hp,bO,lB,CQ _ _ _ (hg p (lG hp)),lB,QN (n:=(i:Int)+1) (by omega)]
    cases Ck (m.Lanes.length:Int) 0 p.Green<;>rfl) (by
    unfold W3
    rw [show decide ((s.Phases.length:Int)< (s.Phases.length:Int))=false from bK (by omega)];rfl)
  rw [h]
  have key: ∀(l:List Phase) (i:Nat),FZ (H9 (fun (_:Nat) (p:Phase)=>if Ck (m.Lanes.length:Int) 0 p.Green=true then none else some (11:Int)) i l)=if (l.any fun p=> !Ck m.Lanes.length 0 p.Green)=true then .inr 11 else .inl ():=by
    intro l
    induction l with
    |nil=>intro i;rfl
    |cons p r ih=>
     intro i
     unfold H9
     rw [bH]
     cases hq:Ck (m.Lanes.length:Int) 0 p.Green
     ·rfl
     ·exact ih (i+1)
  rw [key]
end Go.Abs.World
/-! Loops over lists, as functions on lists. -/
namespace Go.Abs
open Go
section
variable {α β σ S τ:Type}
/-- What a loop over a list makes, with a state, and with a way out. -/
def KW (step:Nat→σ→α→Sum σ τ)(fin:σ→τ):Nat→σ→List α→τ
  |_,s,[]=>fin s
  |i,s,a::r=>match step i s a with
   | .inl s'=>KW step fin (i+1) s' r
   | .inr t=>t
theorem U6 {l:List α}{i:Nat}{a:α}{r:List α}(h:l.drop i=a::r):l[i]? =some a:=by
  have:=congrArg (fun z=>z[0]?) h
  simpa using this
theorem mQ {F:S→Option (Stp S τ)}(pk:Nat→σ→S)(l:List α)(inv:Nat→σ→Prop)(step:Nat→σ→α→Sum σ τ)(fin:σ→τ){s0:σ}{S0:S}(hS:pk 0 s0=S0)(hi:inv 0 s0)
    (hF: ∀i a s,l[i]? =some a→inv i s→F (pk i s)=some (match step i s a with| .inl s'=> .go (pk (i+1) s')| .inr t=> .out t))
    (hI: ∀i a s s',l[i]? =some a→inv i s→step i s a= .inl s'→inv (i+1) s')
    (h0: ∀s,inv l.length s→F (pk l.length s)=some (.out (fin s))):loop F S0=some (KW step fin 0 s0 l):=by
  have key: ∀(r:List α) (i:Nat) (s:σ),l.drop i=r→i≤l.length→inv i s→loop F (pk i s)=some (KW step fin i s r):=by
    intro r
    induction r with
    |nil=>
     intro i s hi hil hv
     have:=N8 hi
     obtain rfl:i=l.length:=by omega
     exact C6 (h0 s hv)
    |cons a r ih=>
     intro i s hi hil hv
     have hlt:=M9 hi
     have ha:=U6 hi
     have hs:=hF i a s ha hv
     unfold KW
     cases h:step i s a with
     |inl s'=>rw [h]at hs;rw [J2 hs];exact ih (i+1) s' (K5 hi) (by omega) (hI i a s s' ha hv h)
     |inr t=>rw [h]at hs;exact C6 hs
  rw [← hS]
  exact key l 0 s0 rfl (by omega) hi
/-- The same without a way out. -/
def EW (step:Nat→σ→α→σ):Nat→σ→List α→σ
  |_,s,[]=>s
  |i,s,a::r=>EW step (i+1) (step i s a) r
theorem HB (step:Nat→σ→α→σ)(fin:σ→τ): ∀(l:List α) (i:Nat) (s:σ),KW (fun i s a=> .inl (step i s a)) fin i s l=fin (EW step i s l)
  | [],_,_=>rfl
  |_::r,i,_=>HB step fin r (i+1) _
theorem XY {F:S→Option (Stp S τ)}(pk:Nat→σ→S)(l:List α)(inv:Nat→σ→Prop)(step:Nat→σ→α→σ)(fin:σ→τ){s0:σ}{S0:S}(hS:pk 0 s0=S0)(hi:inv 0 s0)
    (hF: ∀i a s,l[i]? =some a→inv i s→F (pk i s)=some (.go (pk (i+1) (step i s a))))
    (hI: ∀i a s,l[i]? =some a→inv i s→inv (i+1) (step i s a))
    (h0: ∀s,inv l.length s→F (pk l.length s)=some (.out (fin s))):loop F S0=some (fin (EW step 0 s0 l)):=by
  rw [← HB step fin]
  exact mQ pk l inv _ fin hS hi hF (fun i a s s' h1 h2 h3=>by cases h3;exact hI i a s h1 h2) h0
/-- The elements that a loop gathers. -/
def Gm (g:Nat→α→Option β):Nat→List α→List β
  |_,[]=> []
  |i,a::r=>match g i a with
   |some b=>b::Gm g (i+1) r
   |none=>Gm g (i+1) r
theorem Uw (g:Nat→α→Option β): ∀(l:List α) (i:Nat),(Gm g i l).length≤l.length
  | [],_=>wH _
  |a::r,i=>by
   have:=Uw g r (i+1)
   unfold Gm
   cases g i a<;>simp only [lL]<;>omega
theorem CR (g:Nat→α→Option β): ∀(l:List α) (i:Nat) (s:List β),EW (fun i s a=>match g i a with|some b=>s++ [b]|none=>s) i s l=s++Gm g i l
  | [],_,s=>by simp [EW,Gm]
  |a::r,i,s=>by
   unfold EW Gm
   rw [CR g r (i+1)]
   cases g i a<;>simp
theorem mR {F:S→Option (Stp S τ)}(pk:Nat→List β→S)(l:List α)(g:Nat→α→Option β)(fin:List β→τ){S0:S}(hS:pk 0 []=S0)
    (hF: ∀i a (s:List β),l[i]? =some a→s.length≤i→F (pk i s)=some (.go (pk (i+1) (match g i a with|some b=>s++ [b]|none=>s))))
    (h0: ∀s,F (pk l.length s)=some (.out (fin s))):loop F S0=some (fin (Gm g 0 l)):=by
  have:=XY pk l (fun i s=>s.length≤i) (fun i s a=>match g i a with|some b=>s++ [b]|none=>s) fin hS (by simp) hF (fun i a s _ hs=>by
    cases g i a<;>simp<;>omega) (fun s _=>h0 s)
  rw [this,CR,lQ]
theorem GC {F:List β×Int→Option (Stp (List β×Int) τ)}(l:List α)(g:Nat→α→Option β)(fin:List β→τ)
    (hF: ∀(i:Nat) a (s:List β),l[i]? =some a→s.length≤i→F (s,(i:Int))=some (.go ((match g i a with|some b=>s++ [b]|none=>s),((i+1:Nat):Int))))
    (h0: ∀s,F (s,(l.length:Int))=some (.out (fin s))):loop F ([],0)=some (fin (Gm g 0 l)):=mR (fun i s=>(s,(i:Int))) l g fin rfl hF h0
/-- Is there one? -/
theorem HC {F:Int→Option (Stp Int (Sum Unit β))}(l:List α)(p:α→Bool)(v:β)(hF: ∀(i:Nat) a,l[i]? =some a→F (i:Int)=some (if p a then .out (.inr v)else .go ((i+1:Nat):Int)))(h0:F (l.length:Int)=some (.out (.inl ()))):
    loop F 0=some (if l.any p then .inr v else .inl ()):=by
  have key: ∀(l:List α) (i:Nat),KW (fun _ _ a=>if p a then Sum.inr (Sum.inr v)else Sum.inl ()) (fun _=>(Sum.inl ():Sum Unit β)) i () l=if l.any p then .inr v else .inl ():=by
    intro l
    induction l with
    |nil=>intro i;rfl
    |cons a r ih=>
     intro i
     unfold KW
     rw [bH]
     cases h:p a
     ·exact ih (i+1)
     ·rfl
  rw [← key l 0]
  exact mQ (F:=F) (σ:=Unit) (fun i _=>(i:Int)) l (fun _ _=>True) _ _ (s0:=()) rfl trivial (fun i a _ h _=>by rw [hF i a h];cases p a<;>rfl) (fun _ _ _ _ _ _ _=>trivial) (fun _ _=>h0)
end
theorem J6 {i:Nat}{n:Nat}(h:i<n):decide ((i:Int)< (n:Int))=true:=bJ (by omega)
theorem I0 (n:Nat):decide ((n:Int)< (n:Int))=false:=bK (by omega)
theorem G7 {i:Nat}{n:Nat}(h:i<n)(hn:n≤1000000000000):D6 ((i:Int)+1)=((i+1:Nat):Int):=by rw [F5 (by omega)];omega
end Go.Abs
namespace Go.Abs.World
open Go Go.Abs
structure BearZ (m:Map):Prop where
  many:m.Zones.length≤1000000
  parts: ∀z∈m.Zones,z.Parts.length≤1000000
noncomputable def Q4 (m:Map)(k:Int):Int:=((m.Lanes[k.toNat]?).map fun l=>Rc l.Curve_).getD 0
noncomputable def Tn (m:Map)(p:Part):Bool:=decide (p.From<0)||decide (p.From≥p.To)||decide (p.To>Q4 m p.Lane_)||decide (p.Rank<0)||decide (p.Rank>100)
noncomputable def zoneE (m:Map)(_:Nat)(z:Zone):Option Int:=
  if z.Parts.length<2 then some 6
  else if 6<z.Parts.length then some 8
  else if z.Signal_<0∨(m.Signals.length:Int)<z.Signal_ then some 2
  else if Ck m.Lanes.length 0 (z.Parts.map (·.Lane_))=false then some 11
  else if z.Parts.any (Tn m)=true then some 2 else none
theorem Tp {m:Map}{k:Int}(h0:0≤k)(h1:k<m.Lanes.length): ∃l,m.Lanes[k.toNat]? =some l∧C0 m.Lanes k=some l:=by
  have hlt:k.toNat<m.Lanes.length:=by omega
  refine ⟨m.Lanes[k.toNat],lH hlt,?_⟩
  unfold C0
  rw [bQ h0,lH hlt]
theorem IM {m:Map}(B:Bear m){k:Int}(h0:0≤k)(h1:k<m.Lanes.length):Cq m k=some (Q4 m k):=by
  obtain ⟨l,e1,e2⟩:=Tp h0 h1
  have:=jZ (m:=m) e1 (B.pts l (lG e1)).1
  rw [show ((k.toNat:Nat):Int)=k by omega]at this
  rw [this,Q4,e1];rfl
theorem KX {m:Map}(B:Bear m){k:Int}(h0:0≤k)(h1:k<m.Lanes.length): ∃l,C0 m.Lanes k=some l∧Fk l.Curve_=some (Q4 m k):=by
  obtain ⟨l,e1,e2⟩:=Tp h0 h1
  refine ⟨l,e2,?_⟩
  rw [IG _ (B.pts l (lG e1)).1,Q4,e1];rfl
theorem SY {α β:Type}(f:α→β): ∀(l:List α) (i:Nat),Gm (fun _ a=>some (f a)) i l=l.map f
  | [],_=>rfl
  |a::r,i=>by rw [Gm,SY f r];rfl
theorem fP {z:Zone}{F:List Int×Int→Option (Stp (List Int×Int) (List Int))}(hl:z.Parts.length≤1000000)
    (hF: ∀x,F x=cond (decide (x.2< (z.Parts.length:Int))) ((C0 z.Parts x.2).bind fun v=>(X3 x.1 [v.Lane_]).bind fun w=>some (.go (w,D6 (x.2+1)))) (some (.out x.1))):
    loop F ([],0)=some (z.Parts.map (·.Lane_)):=by
  rw [← SY (fun p:Part=>p.Lane_) z.Parts 0]
  refine mR (fun i s=>(s,(i:Int))) z.Parts (fun _ p=>some p.Lane_) id rfl (fun i a s ha hs=> ?_) (fun s=> ?_)
  ·have hi:=G9 ha
   rw [hF,J6 hi,C3 ha,bO,lB,Ey (by simp;omega),lB,G7 hi (by omega)]
  ·rw [hF,I0];rfl
theorem fQ {m:Map}(B:Bear m)(Z:BearZ m):V2 ⟨m⟩=some ((H9 (zoneE m) 0 m.Zones).getD 0):=by
  have hb:=B.lanes
  have h:=X7 m.Zones (R0 ⟨m⟩) (zoneE m) (fun i z hz=>by
    have hi:=G9 hz
    have hm:=Z.many
    have p1:=Z.parts z (lG hz)
    unfold R0 zoneE
    dsimp only
    rw [J6 hi,C3 hz,bO,lB,fP p1 (F:=Fc z) (fun x=>rfl),lB,GA _ _ _ (by simpa using p1) (by omega) (by omega),lB,G7 hi (by omega)]
    by_cases h1:z.Parts.length<2
    ·rw [bQ h1,show decide ((z.Parts.length:Int)<2)=true from bJ (by omega)];rfl
    ·rw [bR h1,show decide ((z.Parts.length:Int)<2)=false from bK (by omega),bP]
     by_cases h2:6<z.Parts.length
     ·rw [bQ h2,show decide ((z.Parts.length:Int)>6)=true from bJ (by omega)];rfl
     ·rw [bR h2,show decide ((z.Parts.length:Int)>6)=false from bK (by omega),bP]
      by_cases h3:z.Signal_<0∨(m.Signals.length:Int)<z.Signal_
      ·rw [bQ h3,show ((decide (z.Signal_<0))||(decide (z.Signal_>(m.Signals.length:Int))))=true by simpa using h3];rfl
      ·rw [bR h3,show ((decide (z.Signal_<0))||(decide (z.Signal_>(m.Signals.length:Int))))=false by rw [bZ];simpa using h3,bP]
       cases h4:Ck (m.Lanes.length:Int) 0 (z.Parts.map (·.Lane_))
       ·rfl
       ·rw [bR (by decide)]
        have:=HC (F:=Q9 ⟨m⟩ z) z.Parts (Tn m) (2:Int) (fun j p hp=>by
          have hj:=G9 hp
          have hk:=Lc h4 p.Lane_ (List.mem_map.2 ⟨p,lG hp,rfl⟩)
          unfold Q9 Tn
          dsimp only
          rw [J6 hj,C3 hp,bO,lB,IM B hk.1 hk.2,G7 hj (by omega)]
          cases h5:(decide (p.From<0)||decide (p.From≥p.To))
          ·simp only [bX,bO,lB]
           cases (false||decide (p.To>Q4 m p.Lane_)||decide (p.Rank<0)||decide (p.Rank>100))<;>rfl
          ·rfl) (by unfold Q9;rw [I0];rfl)
        rw [this]
        cases z.Parts.any (Tn m)<;>rfl) (by
    unfold R0
    dsimp only
    rw [I0];rfl)
  unfold V2
  rw [h]
  cases H9 (zoneE m) 0 m.Zones<;>rfl
theorem fR {m:Map}(B:Bear m)(Z:BearZ m){i:Nat}{z:Zone}(hz:m.Zones[i]? =some z):Ja m z=some ((zoneE m i z).getD 0):=by
  have hb:=B.lanes
  have p1:=Z.parts z (lG hz)
  unfold Ja zoneE
  rw [fP p1 (F:=Im z) (fun x=>rfl),lB,CQ _ _ _ (by simpa using p1),lB]
  by_cases h1:z.Parts.length<2
  ·rw [bQ h1,show decide ((z.Parts.length:Int)<2)=true from bJ (by omega)];rfl
  ·rw [bR h1,show decide ((z.Parts.length:Int)<2)=false from bK (by omega),bP]
   by_cases h2:6<z.Parts.length
   ·rw [bQ h2,show decide ((z.Parts.length:Int)>6)=true from bJ (by omega)];rfl
   ·rw [bR h2,show decide ((z.Parts.length:Int)>6)=false from bK (by omega),bP]
    by_cases h3:z.Signal_<0∨(m.Signals.length:Int)<z.Signal_
    ·rw [bQ h3,show ((decide (z.Signal_<0))||(decide (z.Signal_>(m.Signals.length:Int))))=true by simpa using h3];rfl
    ·rw [bR h3,show ((decide (z.Signal_<0))||(decide (z.Signal_>(m.Signals.length:Int))))=false by rw [bZ];simpa using h3,bP]
     cases h4:Ck (m.Lanes.length:Int) 0 (z.Parts.map (·.Lane_))
     ·rfl
     ·rw [bR (by decide)]
      have:=HC (F:=Bg m z) z.Parts (Tn m) (2:Int) (fun j p hp=>by
        have hj:=G9 hp
        have hk:=Lc h4 p.Lane_ (List.mem_map.2 ⟨p,lG hp,rfl⟩)
        obtain ⟨l,e1,e2⟩:=KX B hk.1 hk.2
        unfold Bg Tn
        rw [J6 hj,C3 hp,bO,lB,e1,G7 hj (by omega)]
        cases h5:(decide (p.From<0)||decide (p.From≥p.To))
        ·simp only [bX,bO,lB,e2]
         cases (false||decide (p.To>Q4 m p.Lane_)||decide (p.Rank<0)||decide (p.Rank>100))<;>rfl
        ·rfl) (by unfold Bg;rw [I0];rfl)
      rw [this]
      cases z.Parts.any (Tn m)<;>rfl
structure BearW (m:Map):Prop where
  many:m.Works.length≤1000000
noncomputable def workE (m:Map)(_:Nat)(w:Work):Option Int:=
  if w.Lane_<0∨(m.Lanes.length:Int)≤w.Lane_ then some 7
  else if (decide (w.From<0)||decide (w.From>w.To)||decide (w.To>Q4 m w.Lane_)||decide (w.Begin<0)||decide (w.Begin≥w.End)||decide (w.End>1099511627776)|| !Vg w.Limit 0 ((m.Lanes[w.Lane_.toNat]?).map fun l=>(V9 l.Kind).1).get!)=true then some 2 else none
theorem fS {m:Map}(B:Bear m)(W:BearW m):V3 ⟨m⟩=some ((H9 (workE m) 0 m.Works).getD 0):=by
  have hb:=B.lanes
  have h:=X7 m.Works (R3 ⟨m⟩) (workE m) (fun i w hw=>by
    have hi:=G9 hw
    have hm:=W.many
    unfold R3 workE
    dsimp only
    rw [J6 hi,C3 hw,bO,lB,G7 hi (by omega)]
    by_cases h1:w.Lane_<0∨(m.Lanes.length:Int)≤w.Lane_
    ·rw [bQ h1,show ((decide (w.Lane_<0))||(decide (w.Lane_≥(m.Lanes.length:Int))))=true by simpa using h1];rfl
    ·rw [bR h1,show ((decide (w.Lane_<0))||(decide (w.Lane_≥(m.Lanes.length:Int))))=false by rw [bZ];simpa using h1,bP]
     obtain ⟨l,e1,e2⟩:=Tp (m:=m) (k:=w.Lane_) (by omega) (by omega)
     rw [e2,lB,Uu,lB,IM B (by omega) (by omega),Rn,e1]
     simp only [lF,Option.get!_some]
     cases (decide (w.From<0)||decide (w.From>w.To))
     ·simp only [bX,bO,lB]
      cases (false||decide (w.To>Q4 m w.Lane_)||decide (w.Begin<0)||decide (w.Begin≥w.End)||decide (w.End>1099511627776))
      ·simp only [bX,bO,lB]
       by_cases hq:Vg w.Limit 0 (V9 l.Kind).1=true<;>simp [hq]
      ·rfl
     ·rfl) (by
    unfold R3
    dsimp only
    rw [I0];rfl)
  unfold V3
  rw [h]
  cases H9 (workE m) 0 m.Works<;>rfl
theorem fT {m:Map}(B:Bear m){i:Nat}(w:Work):Jb m w=some ((workE m i w).getD 0):=by
  have hb:=B.lanes
  unfold Jb workE
  by_cases h1:w.Lane_<0∨(m.Lanes.length:Int)≤w.Lane_
  ·rw [bQ h1,show ((decide (w.Lane_<0))||(decide (w.Lane_≥(m.Lanes.length:Int))))=true by simpa using h1];rfl
  ·rw [bR h1,show ((decide (w.Lane_<0))||(decide (w.Lane_≥(m.Lanes.length:Int))))=false by rw [bZ];simpa using h1,bP]
   obtain ⟨l,e1,e2⟩:=Tp (m:=m) (k:=w.Lane_) (by omega) (by omega)
   obtain ⟨l',e3,e4⟩:=KX B (k:=w.Lane_) (by omega) (by omega)
   rw [e2]at e3
   cases e3
   rw [e2,lB,Pd,lB,e4,Sn,e1]
   simp only [lF,Option.get!_some]
   cases (decide (w.From<0)||decide (w.From>w.To))
   ·simp only [bX,bO,lB]
    cases (false||decide (w.To>Q4 m w.Lane_)||decide (w.Begin<0)||decide (w.Begin≥w.End)||decide (w.End>1099511627776))
    ·simp only [bX,bO,lB]
     by_cases hq:Vg w.Limit 0 (V9 l.Kind).1=true<;>simp [hq]
    ·rfl
   ·rfl
theorem WA {m:Map}(S:BearS m)(i:Nat){s:Signal}(hs:s∈m.Signals):Fj m s=some ((signalE m i s).getD 0):=by
  obtain ⟨p1,p2⟩:=S.phases s hs
  unfold Fj signalE
  rw [Sn,lB,show (0:Int)=((0:Nat):Int) from rfl,SX s p1 s.Phases 0 _ rfl (by omega),lB]
  rw [show ((0:Nat):Int)=0 from rfl,QD m s p1 p2]
  by_cases h1:s.Phases.length=0
  ·rw [bQ h1,h1];rfl
  ·rw [bR h1,show ((s.Phases.length:Int)==0)=false by simp only [beq_eq_false_iff_ne];omega,bP]
   by_cases h2:6<s.Phases.length
   ·rw [bQ h2,show decide ((s.Phases.length:Int)>6)=true from bJ (by omega)];rfl
   ·rw [bR h2,show decide ((s.Phases.length:Int)>6)=false from bK (by omega),bP]
    cases Vg s.Offset 0 1099511627776
    ·rfl
    ·cases (s.Phases.any fun p=> !Vg p.Ticks 1 10000)
     ·cases (s.Phases.any fun p=> !Ck m.Lanes.length 0 p.Green)<;>rfl
     ·rfl
/-- All lists of a map are of bearable lengths. -/
structure BearM (m:Map):Prop where
  toBear:Bear m
  toBearS:BearS m
  toBearZ:BearZ m
  toBearW:BearW m
theorem BearM.lanes {m:Map}(B:BearM m):m.Lanes.length≤1000000:=B.toBear.lanes
noncomputable def Ux (m:Map):Int:=
  if Vg m.Version 0 1099511627776=false then 2
  else if m.Lanes.length=0 then 6
  else if 12<m.Lanes.length∨12<m.Zones.length∨4<m.Signals.length∨8<m.Works.length then 8
  else ((H9 (laneE m.Lanes.length) 0 m.Lanes).or ((H9 (nextE m) 0 m.Lanes).or ((H9 (signalE m) 0 m.Signals).or ((H9 (zoneE m) 0 m.Zones).or (H9 (workE m) 0 m.Works))))).getD 0
theorem Bh {α:Type}{g:Nat→α→Option Int}(h: ∀i a e,g i a=some e→e≠0): ∀{l:List α} {i:Nat} {e:Int},H9 g i l=some e→e≠0
  | [],_,_,q=>by cases q
  |a::r,i,e,q=>by
   unfold H9 at q
   cases hg:g i a with
   |some e'=>rw [hg]at q;cases q;exact h i a e hg
   |none=>rw [hg]at q;exact Bh h q
theorem EX {m:Map}{i:Nat}{z:Zone}{e:Int}(h:zoneE m i z=some e):e≠0:=by
  unfold zoneE at h
  repeat' split at h
  all_goals first|(cases h;decide)|cases h
theorem We {m:Map}{i:Nat}{z:Signal}{e:Int}(h:signalE m i z=some e):e≠0:=by
  unfold signalE at h
  repeat' split at h
  all_goals first|(cases h;decide)|cases h
theorem KY {m:Map}{i:Nat}{z:Work}{e:Int}(h:workE m i z=some e):e≠0:=by
  unfold workE at h
  repeat' split at h
  all_goals first|(cases h;decide)|cases h
theorem KZ {m:Map}{i:Nat}{z:Lane}{e:Int}(h:nextE m i z=some e):e≠0:=Bh (fun _ _ _=>ZV) h
/-- A loop that goes on as long as there is no error. -/
theorem fU {α:Type}{F:Int×Int→Option (Stp (Int×Int) Int)}(l:List α)(g:Nat→α→Option Int)(hg: ∀i a e,g i a=some e→e≠0)(hl:l.length≤1000000)
    (hF: ∀(i:Nat) a,l[i]? =some a→F (0,(i:Int))=some (.go ((g i a).getD 0,((i+1:Nat):Int)))) (h0: ∀(i:Nat) (e:Int),e≠0→F (e,(i:Int))=some (.out e)) (h1:F (0,(l.length:Int))=some (.out 0)) (e0:Option Int) (he: ∀e,e0=some e→e≠0):
    loop F (e0.getD 0,0)=some ((e0.or (H9 g 0 l)).getD 0):=by
  have key: ∀(r:List α) (i:Nat),l.drop i=r→i≤l.length→loop F (0,(i:Int))=some ((H9 g i r).getD 0):=by
    intro r
    induction r with
    |nil=>
     intro i hi hil
     have:=N8 hi
     obtain rfl:i=l.length:=by omega
     exact C6 h1
    |cons a r ih=>
     intro i hi hil
     have hlt:=M9 hi
     have hs:=hF i a (U6 hi)
     rw [J2 hs]
     unfold H9
     cases h:g i a with
     |some e=>exact C6 (h0 (i+1) e (hg i a e h))
     |none=>exact ih (i+1) (K5 hi) (by omega)
  cases e0 with
  |some e=>exact C6 (h0 0 e (he e rfl))
  |none=>exact key l 0 rfl (by omega)
theorem So {m:Map}(B:BearM m):Kg m=some (Ux m):=by
  have hb:=B.lanes
  unfold Kg Ux
  rw [Sn,lB]
  cases Vg m.Version 0 1099511627776
  ·rfl
  ·simp only [bW,bP,Bool.true_eq_false,if_false]
   by_cases h1:m.Lanes.length=0
   ·rw [bQ h1,h1];rfl
   ·rw [bR h1,show ((m.Lanes.length:Int)==0)=false by simp only [beq_eq_false_iff_ne];omega,bP]
    by_cases h2:12<m.Lanes.length∨12<m.Zones.length∨4<m.Signals.length∨8<m.Works.length
    ·rw [bQ h2,show ((((decide ((m.Lanes.length:Int)>12))||(decide ((m.Zones.length:Int)>12)))||(decide ((m.Signals.length:Int)>4)))||(decide ((m.Works.length:Int)>8)))=true by simp;omega];rfl
    ·rw [bR h2,show ((((decide ((m.Lanes.length:Int)>12))||(decide ((m.Zones.length:Int)>12)))||(decide ((m.Signals.length:Int)>4)))||(decide ((m.Works.length:Int)>8)))=false by simp;omega,bP]
     rw [SV B.toBear]
     cases H:H9 (laneE m.Lanes.length) 0 m.Lanes with
     |some e=>rfl
     |none=>
      have n1: ∀e,H9 (nextE m) 0 m.Lanes=some e→e≠0:=fun e h=>Bh (fun _ _ _=>KZ) h
      have n2: ∀e,(H9 (nextE m) 0 m.Lanes).or (H9 (signalE m) 0 m.Signals)=some e→e≠0:=fun e h=>by
        rcases Option.or_eq_some_iff.1 h with h|⟨_,h⟩
        ·exact n1 e h
        ·exact Bh (fun _ _ _=>We) h
      have n3: ∀e,((H9 (nextE m) 0 m.Lanes).or (H9 (signalE m) 0 m.Signals)).or (H9 (zoneE m) 0 m.Zones)=some e→e≠0:=fun e h=>by
        rcases Option.or_eq_some_iff.1 h with h|⟨_,h⟩
        ·exact n2 e h
        ·exact Bh (fun _ _ _=>EX) h
      simp only [FZ,thenS,Option.none_or]
      rw [(NS B.toBear H).2,lB]
      rw [fU m.Signals (signalE m) (fun _ _ _=>We) B.toBearS.many (fun i a ha=>by
       have hi:=G9 ha
       have hm:=B.toBearS.many
       unfold Hb
       dsimp only
       rw [J6 hi,C3 ha,bS,show ((0:Int)==0)=true from rfl,bO,lB,WA B.toBearS i (lG ha),G7 hi (by omega)];rfl) (fun i e he=>by
       unfold Hb
       dsimp only
       rw [show (e==0)=false by simpa using he,Bool.and_false];rfl) (by unfold Hb;dsimp only;rw [I0];rfl) _ n1,lB]
      rw [fU m.Zones (zoneE m) (fun _ _ _=>EX) B.toBearZ.many (fun i a ha=>by
       have hi:=G9 ha
       have hm:=B.toBearZ.many
       unfold Ha
       dsimp only
       rw [J6 hi,C3 ha,bS,show ((0:Int)==0)=true from rfl,bO,lB,fR B.toBear B.toBearZ ha,G7 hi (by omega)];rfl) (fun i e he=>by
       unfold Ha
       dsimp only
       rw [show (e==0)=false by simpa using he,Bool.and_false];rfl) (by unfold Ha;dsimp only;rw [I0];rfl) _ n2,lB]
      rw [fU m.Works (workE m) (fun _ _ _=>KY) B.toBearW.many (fun i a ha=>by
       have hi:=G9 ha
       have hm:=B.toBearW.many
       unfold Gz
       dsimp only
       rw [J6 hi,C3 ha,bS,show ((0:Int)==0)=true from rfl,bO,lB,fT B.toBear (i:=i) a,G7 hi (by omega)];rfl) (fun i e he=>by
       unfold Gz
       dsimp only
       rw [show (e==0)=false by simpa using he,Bool.and_false];rfl) (by unfold Gz;dsimp only;rw [I0];rfl) _ n3,lB]
      rw [Option.or_assoc,Option.or_assoc]
theorem Oa {m:Map}(B:BearM m):Bx m=some (Ux m):=by
  have hb:=B.lanes
  have s0:O8 m 0=(Al ⟨m⟩).bind fun v2=>cond (v2 !=0) (some (.out (.inr v2))) (some (.go 1)):=rfl
  have s1:O8 m 1=(V1 ⟨m⟩).bind fun v2=>cond (v2 !=0) (some (.out (.inr v2))) (some (.go 2)):=rfl
  have s2:O8 m 2=(T8 ⟨m⟩).bind fun v2=>cond (v2 !=0) (some (.out (.inr v2))) (some (.go 3)):=rfl
  have s3:O8 m 3=(S5 ⟨m⟩).bind fun v2=>cond (v2 !=0) (some (.out (.inr v2))) (some (.go 4)):=rfl
  have s4:O8 m 4=(V2 ⟨m⟩).bind fun v2=>cond (v2 !=0) (some (.out (.inr v2))) (some (.go 5)):=rfl
  have s5:O8 m 5=(V3 ⟨m⟩).bind fun v2=>cond (v2 !=0) (some (.out (.inr v2))) (some (.go 6)):=rfl
  have s6:O8 m 6=some (.out (.inl ())):=rfl
  have stp: ∀(i j:Int) (e:Option Int) (X:Option Int),(∀e',e=some e'→e'≠0)→X=some (e.getD 0)→O8 m i=X.bind (fun v2=>cond (v2 !=0) (some (.out (.inr v2))) (some (.go j)))→loop (O8 m) i=match e with|some e'=>some (.inr e')|none=>loop (O8 m) j:=by
    intro i j e X he hX hs
    subst hX
    rw [lB]at hs
    cases e with
    |none=>exact J2 hs
    |some e'=>
     rw [Option.getD_some,show (e' !=0)=true by simpa using he e' rfl]at hs
     exact C6 hs
  unfold Bx Ux
  have hnum:Al ⟨m⟩=some ((if Vg m.Version 0 1099511627776=false then some 2 else if m.Lanes.length=0 then some 6 else if 12<m.Lanes.length∨12<m.Zones.length∨4<m.Signals.length∨8<m.Works.length then some 8 else none:Option Int).getD 0):=by
    unfold Al
    dsimp only
    rw [Rn,lB]
    cases Vg m.Version 0 1099511627776
    ·rfl
    ·simp only [bW,bP,Bool.true_eq_false,if_false]
     by_cases h1:m.Lanes.length=0
     ·rw [bQ h1,h1];rfl
     ·rw [bR h1,show ((m.Lanes.length:Int)==0)=false by simp only [beq_eq_false_iff_ne];omega,bP]
      by_cases h2:12<m.Lanes.length∨12<m.Zones.length∨4<m.Signals.length∨8<m.Works.length
      ·rw [bQ h2,show ((((decide ((m.Lanes.length:Int)>12))||(decide ((m.Zones.length:Int)>12)))||(decide ((m.Signals.length:Int)>4)))||(decide ((m.Works.length:Int)>8)))=true by simp;omega];rfl
      ·rw [bR h2,show ((((decide ((m.Lanes.length:Int)>12))||(decide ((m.Zones.length:Int)>12)))||(decide ((m.Signals.length:Int)>4)))||(decide ((m.Works.length:Int)>8)))=false by simp;omega];rfl
  rw [stp 0 1 _ _ (by repeat' split
                      all_goals (intro e' h;first|(cases h;decide)|cases h)) hnum s0]
  by_cases q1:Vg m.Version 0 1099511627776=false
  ·rw [bQ q1,bQ q1];rfl
  ·rw [bR q1,bR q1]
   by_cases q2:m.Lanes.length=0
   ·rw [bQ q2,bQ q2];rfl
   ·rw [bR q2,bR q2]
    by_cases q3:12<m.Lanes.length∨12<m.Zones.length∨4<m.Signals.length∨8<m.Works.length
    ·rw [bQ q3,bQ q3];rfl
    ·rw [bR q3,bR q3]
     dsimp only
     rw [stp 1 2 _ _ (fun e' h=>Bh (fun _ _ _=>KT) h) (fM B.toBear) s1]
     cases H:H9 (laneE m.Lanes.length) 0 m.Lanes with
     |some e=>rfl
     |none=>
      dsimp only
      rw [stp 2 3 _ _ (fun e' h=>Bh (fun _ _ _=>KZ) h) (NS B.toBear H).1 s2]
      cases H9 (nextE m) 0 m.Lanes with
      |some e=>rfl
      |none=>
       dsimp only
       rw [stp 3 4 _ _ (fun e' h=>Bh (fun _ _ _=>We) h) (VZ B.toBear B.toBearS) s3]
       cases H9 (signalE m) 0 m.Signals with
       |some e=>rfl
       |none=>
        dsimp only
        rw [stp 4 5 _ _ (fun e' h=>Bh (fun _ _ _=>EX) h) (fQ B.toBear B.toBearZ) s4]
        cases H9 (zoneE m) 0 m.Zones with
        |some e=>rfl
        |none=>
         dsimp only
         rw [stp 5 6 _ _ (fun e' h=>Bh (fun _ _ _=>KY) h) (fS B.toBear B.toBearW) s5]
         cases H9 (workE m) 0 m.Works with
         |some e=>rfl
         |none=>dsimp only;rw [C6 s6];rfl
/-- What a valid map is. -/
structure ValR (m:Map):Prop where
  ver:0≤m.Version∧m.Version≤1099511627776
  pos:0<m.Lanes.length
  lanes:m.Lanes.length≤12
  zones:m.Zones.length≤12
  signals:m.Signals.length≤4
  works:m.Works.length≤8
  laneE:H9 (laneE m.Lanes.length) 0 m.Lanes=none
  nextE:H9 (nextE m) 0 m.Lanes=none
  signalE:H9 (signalE m) 0 m.Signals=none
  zoneE:H9 (zoneE m) 0 m.Zones=none
  workE:H9 (workE m) 0 m.Works=none
theorem ZX {α:Type}{g:Nat→α→Option Int}{l:List α}(h: ∀i a e,g i a=some e→e≠0)(h0:(H9 g 0 l).getD 0=0):H9 g 0 l=none:=by
  cases q:H9 g 0 l with
  |none=>rfl
  |some e=>rw [q]at h0;exact absurd h0 (Bh h q)
theorem chkR_zero {m:Map}:Ux m=0↔ValR m:=by
  unfold Ux
  constructor
  ·intro h
   split at h
   ·cases h
   ·rename_i h1
    split at h
    ·cases h
    ·rename_i h2
     split at h
     ·cases h
     ·rename_i h3
      simp only [Vg,Bool.not_eq_false,bU,bM]at h1
      have key: ∀{o r:Option Int},(∀e,o=some e→e≠0)→(o.or r).getD 0=0→o=none∧r.getD 0=0:=by
        intro o r ho hr
        cases o with
        |none=>exact ⟨rfl,hr⟩
        |some e=>exact absurd hr (ho e rfl)
      obtain ⟨a1,h⟩:=key (fun e h=>Bh (fun _ _ _=>KT) h) h
      obtain ⟨a2,h⟩:=key (fun e h=>Bh (fun _ _ _=>KZ) h) h
      obtain ⟨a3,h⟩:=key (fun e h=>Bh (fun _ _ _=>We) h) h
      obtain ⟨a4,h⟩:=key (fun e h=>Bh (fun _ _ _=>EX) h) h
      exact ⟨h1,by omega,by omega,by omega,by omega,by omega,a1,a2,a3,a4,ZX (fun _ _ _=>KY) h⟩
  ·rintro ⟨h1,h2,h3,h4,h5,h6,a1,a2,a3,a4,a5⟩
   rw [bR (by simp only [Vg,Bool.not_eq_false,bU,bM];exact h1),bR (by omega),bR (by omega),a1,a2,a3,a4,a5];rfl
section
variable {m:Map}
theorem ValR.laneOK (V:ValR m){i:Nat}{l:Lane}(h:m.Lanes[i]? =some l):LaneOK m.Lanes.length i l:=Zd V.laneE h
theorem ValR.next (V:ValR m){i:Nat}{l:Lane}(h:m.Lanes[i]? =some l){k:Int}(hk:k∈l.Next):(i:Int)<k∧k<m.Lanes.length:=by
  have:=Lc (V.laneOK h).next k hk
  omega
end
/-- The lanes in which a lane goes on. -/
def nextOf (m:Map)(a:Nat):List Int:=((m.Lanes[a]?).map (·.Next)).getD []
theorem ValR.nextOf {m:Map}(V:ValR m){a:Nat}{k:Int}(hk:k∈World.nextOf m a):(a:Int)<k∧k<m.Lanes.length:=by
  unfold World.nextOf at hk
  cases h:m.Lanes[a]? with
  |none=>rw [h]at hk;cases hk
  |some l=>rw [h]at hk;exact V.next h hk
def Sp (m:Map)(b:Int):Nat→Nat→Bool
  |0,_=>false
  |n+1,a=>(nextOf m a).any fun k=>k==b||Sp m b n k.toNat
theorem SZ {m:Map}(V:ValR m)(b:Int): ∀(n n' a:Nat),m.Lanes.length≤a+n→m.Lanes.length≤a+n'→Sp m b n a=Sp m b n' a:=by
  intro n
  induction n with
  |zero=>
   intro n' a h h'
   have:nextOf m a= []:=by
     unfold nextOf
     rw [lJ (by omega)];rfl
   cases n' with
   |zero=>rfl
   |succ n'=>rw [Sp,Sp,this];rfl
  |succ n ih=>
   intro n' a h h'
   cases n' with
   |zero=>
    have:nextOf m a= []:=by
      unfold nextOf
      rw [lJ (by omega)];rfl
    rw [Sp,Sp,this];rfl
   |succ n'=>
    rw [Sp,Sp]
    rw [Bool.eq_iff_iff,lZ,lZ]
    refine exists_congr fun k=>and_congr_right fun hk=> ?_
    have:=V.nextOf hk
    rw [ih n' k.toNat (by omega) (by omega)]
/-- Does a lane lead to another one? -/
def Sq (m:Map)(a:Nat)(b:Int):Bool:=Sp m b m.Lanes.length a
theorem Zv {m:Map}(V:ValR m)(a:Nat)(b:Int):Sq m a b=(nextOf m a).any fun k=>k==b||Sq m k.toNat b:=by
  unfold Sq
  rw [SZ V b _ (m.Lanes.length+1) a (by omega) (by omega),Sp]
/-- What is known of the sets of the lanes from a number on. -/
structure Reach (m:Map)(i:Nat)(l:List Nat):Prop where
  len:l.length=12
  small: ∀(a x:Nat),l[a]? =some x→x<2^32
  zero: ∀(a:Nat),a<i→l[a]? =some 0
  bits: ∀(a x:Nat),i≤a→a<m.Lanes.length→l[a]? =some x→∀b:Nat,x.testBit b=Sq m a (b:Int)
theorem Reach.get {m:Map}{i:Nat}{l:List Nat}(R:Reach m i l){a:Nat}(h:a<12): ∃x,l[a]? =some x∧x<2^32:=by
  have:=R.len
  exact ⟨l[a],lH (by omega),R.small a _ (lH (by omega))⟩
theorem NT {m:Map}(V:ValR m){b:Int}: ∀(n a:Nat),m.Lanes.length≤a+n→Sq m a b=true→(a:Int)<b∧b<m.Lanes.length
  |0,a,hn,h=>by
   rw [Zv V]at h
   have:nextOf m a= []:=by
     unfold nextOf
     rw [lJ (by omega)];rfl
   rw [this]at h
   cases h
  |n+1,a,hn,h=>by
   rw [Zv V,lZ]at h
   obtain ⟨k,hk,h⟩:=h
   have:=V.nextOf hk
   rcases bV _ _▸h with h|h
   ·have:=eq_of_beq h;omega
   ·have:=NT V n k.toNat (by omega) h;omega
theorem fV {m:Map}(V:ValR m){a:Nat}{b:Int}(h:Sq m a b=true):(a:Int)<b∧b<m.Lanes.length:=NT V m.Lanes.length a (by omega) h
theorem HD {m:Map}(V:ValR m){b:Nat}{c:Int}(h2:Sq m b c=true): ∀(n a:Nat),m.Lanes.length≤a+n→Sq m a (b:Int)=true→Sq m a c=true
  |0,a,hn,h=>by have:=fV V h;omega
  |n+1,a,hn,h=>by
   rw [Zv V,lZ]at h ⊢
   obtain ⟨k,hk,h⟩:=h
   have:=V.nextOf hk
   refine ⟨k,hk,?_⟩
   rcases bV _ _▸h with h|h
   ·have e:=eq_of_beq h
    subst e
    rw [wF,h2,Bool.or_true]
   ·rw [HD V h2 n k.toNat (by omega) h,Bool.or_true]
/-! ### Is a lane there? -/
noncomputable def QO (m:Map)(k:Int):Bool:=(decide (k≥0)&&decide (k<m.Lanes.length))&& (Ux m==0)
theorem isM_true {m:Map}{k:Int}:QO m k=true↔0≤k∧k<m.Lanes.length∧ValR m:=by
  unfold QO
  rw [bU,bU,wB,chkR_zero]
  simp only [bM,and_assoc,ge_iff_le]
theorem Zf {m:Map}(B:BearM m)(k:Int):Ls m k=some (QO m k):=by
  unfold Ls QO
  rw [Oa B]
  cases (decide (k≥0)&&decide (k< (m.Lanes.length:Int)))<;>rfl
theorem Uf {m:Map}(B:BearM m)(k:Int):Mn m k=some (QO m k):=by
  unfold Mn QO
  rw [So B]
  cases (decide (k≥0)&&decide (k< (m.Lanes.length:Int)))<;>rfl
theorem Wz {m:Map}(B:BearM m){k:Int}(h0:0≤k)(h1:k<m.Lanes.length):Kw m k=some (Q4 m k):=by
  obtain ⟨l,e1,e2⟩:=KX B.toBear h0 h1
  unfold Kw
  rw [e1,lB,e2];rfl
noncomputable def De (m:Map)(k:Int):Int:=if QO m k then Q4 m k else 0
theorem Je {m:Map}(B:BearM m)(k:Int):Bp m k=some (De m k):=by
  unfold Bp De
  rw [Zf B,lB]
  cases h:QO m k
  ·rfl
  ·have:=isM_true.1 h
   rw [bQ rfl,bW,bP,IM B.toBear this.1 this.2.1];rfl
theorem Qm {m:Map}(B:BearM m)(k:Int):Ky m k=some (De m k):=by
  unfold Ky De
  rw [Uf B,lB]
  cases h:QO m k
  ·rfl
  ·have:=isM_true.1 h
   rw [bQ rfl,bW,bP,Wz B this.1 this.2.1];rfl
theorem Zg (l:List Int)(hl:l.length≤1000000)(k:Int):N4 l k=some (l.contains k):=by
  unfold N4 R4
  rw [Qa l (fun x=>k==x) (by omega) (fun i a h=>by
   have hi:=G9 h
   unfold T1
   rw [J6 hi,C3 h,bO,lB]
   cases k==a<;>rfl) (by unfold T1;rw [I0];rfl)]
  rw [lB,Uv,List.contains_eq_any_beq]
theorem WB (l:List Int)(hl:l.length≤1000000)(k:Int):Ow l k=some (l.contains k):=by
  unfold Ow
  rw [HC l (fun x=>x==k) true (fun i a h=>by
   have hi:=G9 h
   unfold Nz
   rw [J6 hi,C3 h,bO,lB,G7 hi (by omega)]
   cases a==k<;>rfl) (by unfold Nz;rw [I0];rfl)]
  rw [List.contains_eq_any_beq,show (fun x=>x==k)=(fun x=>k==x) from funext fun x=>by rw [Bool.beq_comm]]
  cases l.any fun x=>k==x<;>rfl
/-- What comes before a lane. -/
def Cl (m:Map)(k:Int):List Int:=Gm (fun i (l:Lane)=>if l.Next.contains k then some (i:Int)else none) 0 m.Lanes
theorem ZY {m:Map}(B:BearM m)(k:Int):Fd m k=some (Cl m k):=by
  unfold Fd Cl
  have hb:=B.lanes
  rw [GC m.Lanes (fun i (l:Lane)=>if l.Next.contains k then some (i:Int)else none) id (fun i l s h hs=>by
   have hi:=G9 h
   unfold Ao
   dsimp only
   rw [J6 hi,C3 h,bO,lB,Zg _ (B.toBear.pts l (lG h)).2,lB,Ey (by simp;omega),G7 hi (by omega)]
   cases l.Next.contains k<;>rfl) (fun s=>by unfold Ao;rw [I0];rfl)]
  rfl
theorem LA {m:Map}(B:BearM m)(k:Int):Kv m k=some (Cl m k):=by
  unfold Kv Cl
  have hb:=B.lanes
  rw [GC m.Lanes (fun i (l:Lane)=>if l.Next.contains k then some (i:Int)else none) id (fun i l s h hs=>by
   have hi:=G9 h
   unfold Jc
   dsimp only
   rw [J6 hi,C3 h,bO,lB,WB _ (B.toBear.pts l (lG h)).2,lB,Ey (by simp;omega),G7 hi (by omega)]
   cases l.Next.contains k<;>rfl) (fun s=>by unfold Jc;rw [I0];rfl)]
  rfl
def T3 (m:Map):List Int:=Gm (fun i (_:Lane)=>if (Cl m (i:Int)).length=0 then some (i:Int)else none) 0 m.Lanes
theorem TA {m:Map}(B:BearM m):Lv m=some (T3 m):=by
  unfold Lv T3
  have hb:=B.lanes
  rw [GC m.Lanes (fun i (_:Lane)=>if (Cl m (i:Int)).length=0 then some (i:Int)else none) id (fun i l s h hs=>by
   have hi:=G9 h
   unfold Hh
   dsimp only
   rw [J6 hi,bO,LA B,lB,Ey (by simp;omega),G7 hi (by omega)]
   by_cases q:(Cl m (i:Int)).length=0
   ·rw [bQ q,q];rfl
   ·rw [bR q,show (((Cl m (i:Int)).length:Int)==0)=false by simp only [beq_eq_false_iff_ne];omega];rfl) (fun s=>by unfold Hh;rw [I0];rfl)]
  rfl
def Jr (z:Zone)(k:Int):Part×Bool:=match z.Parts.find? (fun p=>p.Lane_==k)with|some p=>(p,true)|none=>(⟨0,0,0,0⟩,false)
theorem kA {z:Zone}(hl:z.Parts.length≤1000000)(k:Int):Jz z k=some (Jr z k):=by
  unfold Jz K4 Jr
  rw [Qa z.Parts (fun p=>p.Lane_==k) (by omega) (fun i a h=>by
   have hi:=G9 h
   unfold M4 Ns
   rw [J6 hi,C3 h,bO,lB,lB]
   cases a.Lane_==k<;>rfl) (by unfold M4;rw [I0];rfl),lB]
  unfold EV
  cases h:z.Parts.findIdx? (fun p=>p.Lane_==k)with
  |none=>
   have:z.Parts.find? (fun p=>p.Lane_==k)=none:=by
     rw [List.find?_eq_none]
     have:=List.findIdx?_eq_none_iff.1 h
     intro x hx;simpa using this x hx
   rw [this];rfl
  |some i=>
   obtain ⟨hi,h1,h2⟩:=List.findIdx?_eq_some_iff_getElem.1 h
   have:z.Parts.find? (fun p=>p.Lane_==k)=some z.Parts[i]:=by
     rw [List.find?_eq_some_iff_getElem]
     exact ⟨h1,i,hi,rfl,fun j hj=>by simpa using h2 j hj⟩
   rw [this]
   dsimp only
   rw [show decide ((i:Int)<0)=false from bK (by omega),bP,eT hi];rfl
structure ZoneOK (m:Map)(z:Zone):Prop where
  two:2≤z.Parts.length
  six:z.Parts.length≤6
  sig:0≤z.Signal_∧z.Signal_≤m.Signals.length
  rise:Ck m.Lanes.length 0 (z.Parts.map (·.Lane_))=true
  part: ∀p∈z.Parts,0≤p.From∧p.From<p.To∧p.To≤Q4 m p.Lane_∧0≤p.Rank∧p.Rank≤100
theorem WC {m:Map}{i:Nat}{z:Zone}(h:zoneE m i z=none):ZoneOK m z:=by
  unfold zoneE at h
  split at h
  ·cases h
  ·rename_i h1
   split at h
   ·cases h
   ·rename_i h2
    split at h
    ·cases h
    ·rename_i h3
     split at h
     ·cases h
     ·rename_i h4
      split at h
      ·cases h
      ·rename_i h5
       refine ⟨by omega,by omega,by omega,by simpa using h4,fun p hp=> ?_⟩
       have:=List.any_eq_false.1 (bZ.2 h5) p hp
       simp only [Tn,bV,bM,not_or,Int.not_lt,Int.not_le,ge_iff_le,gt_iff_lt]at this
       omega
theorem ValR.zoneOK {m:Map}(V:ValR m){z:Zone}(hz:z∈m.Zones):ZoneOK m z:=by
  obtain ⟨i,hi,rfl⟩:=List.mem_iff_getElem.1 hz
  have:=firstE_none.1 V.zoneE i _ (lH hi)
  exact WC this
theorem ZoneOK.lane {m:Map}{z:Zone}(O:ZoneOK m z){p:Part}(hp:p∈z.Parts):0≤p.Lane_∧p.Lane_<m.Lanes.length:=Lc O.rise p.Lane_ (List.mem_map.2 ⟨p,hp,rfl⟩)
theorem XZ {m:Map}{k:Int}(h0:0≤k)(h1:k<m.Zones.length): ∃z,m.Zones[k.toNat]? =some z∧C0 m.Zones k=some z:=by
  have hlt:k.toNat<m.Zones.length:=by omega
  refine ⟨m.Zones[k.toNat],lH hlt,?_⟩
  unfold C0
  rw [bQ h0,lH hlt]
theorem fW:Ia=some true:=law04_awake_le _ (by decide+kernel)
theorem Ir (n:Int){m:Int}(hm:0<m):0≤n % m∧n % m<m:=⟨wR n (by omega),wS n hm⟩
theorem NU {n m:Int}(hm:0<m):n % m=if n.tmod m<0 then n.tmod m+m else n.tmod m:=by
  have a:=wR n (show m≠0 by omega)
  have b:=wS n hm
  rw [Int.tmod_eq_emod]
  by_cases q:0≤n∨m ∣ n
  ·rw [bQ q,bR (by omega)];omega
  ·rw [bR q]
   have:n % m≠0:=fun e=>q (.inr (Int.dvd_of_emod_eq_zero e))
   rw [bQ (by omega)];omega
theorem Sr {n m:Int}(hm:0<m)(hm2:m≤9223372036854775807):Ra n m=some (n % m):=by
  have h1:=NU (n:=n) hm
  have a:=Ir n hm
  unfold Ra Vl
  rw [bR (by omega),lB]
  by_cases q:n.tmod m<0
  ·rw [bQ q]at h1
   rw [bJ q,bO,F5 (by omega),← h1]
  ·rw [bR q]at h1
   rw [bK q,bP,← h1]
theorem Wf {n m:Int}(hm:0<m)(hm2:m≤9223372036854775807):Pc n m=some (n % m):=by
  have h1:=NU (n:=n) hm
  have a:=Ir n hm
  unfold Pc Vl
  rw [bR (by omega),lB]
  by_cases q:n.tmod m<0
  ·rw [bQ q]at h1
   rw [bJ q,bO,F5 (by omega),← h1]
  ·rw [bR q]at h1
   rw [bK q,bP,← h1]
def QE (kind lim:Int)(next:List Int)(a b c d:Int):Lane:=⟨kind,⟨[⟨a,b⟩,⟨c,d⟩]⟩,if kind=3 then 500 else 1500,lim,next⟩
theorem kB (kind lim:Int)(next:List Int)(a b c d:Int):U2 kind lim next [a,b,c,d]=some (QE kind lim next a b c d):=by
  unfold U2 QE
  rw [J2 (s':=(2,[⟨a,b⟩])) rfl,J2 (s':=(4,[⟨a,b⟩,⟨c,d⟩])) rfl,C6 (t:= [⟨a,b⟩,⟨c,d⟩]) rfl,lB]
  by_cases h:kind=3
  ·rw [bQ h,h];rfl
  ·rw [bR h,show (kind==3)=false by simpa using h];rfl
def oV (off a b:Int):Signal:=⟨off,[⟨12,[a]⟩,⟨5,[]⟩,⟨9,[b]⟩,⟨4,[]⟩]⟩
/-- The numbers of which a map of the kit is made. -/
structure Par where
  lim:Int
  r:Int
  o:Int
  o':Int
  ver:Int
  wk:List Work
structure ParOK (p:Par):Prop where
  lim:p.lim=1500∨p.lim=600∨p.lim=1000∨p.lim=300
  r:p.r=0∨p.r=1
  o:0≤p.o∧p.o<31
  o':0≤p.o'∧p.o'<31
  ver:0≤p.ver∧p.ver<5
  wk:p.wk= []∨∃b l,0≤b∧b<40∧0≤l∧l≤400∧p.wk= [⟨0,10000,15000,b,b+20,l⟩]
def Mo (k:Nat)(lim:Int):List Lane:=match k with
  |0=> [QE 1 lim [] 0 0 60000 0]
  |1|2=> [QE 1 lim [] 0 0 50000 0,QE 1 1500 [] 30000 (-20000) 30000 20000]
  |3=> [QE 1 lim [1,2] 0 0 30000 0,QE 1 1500 [] 30000 0 60000 0,QE 1 800 [] 30000 0 54000 10000]
  |4=> [QE 1 lim [2] 0 0 30000 0,QE 1 1500 [2] 6000 (-10000) 30000 0,QE 1 1500 [] 30000 0 60000 0]
  |5=> [QE 1 lim [1] 0 0 20000 0,QE 1 lim [] 20000 0 50000 0,QE 3 200 [] 35000 (-8000) 35000 8000]
  |_=> [QE 1 lim [1,2] 0 0 20000 0,QE 1 1500 [] 20000 0 50000 0,QE 1 1000 [] 20000 0 44000 10000,QE 2 700 [] 36000 (-12000) 36000 18000]
def CS (k:Nat)(r:Int):List Zone:=match k with
  |1=> [⟨[⟨0,28000,32000,r⟩,⟨1,18000,22000,2 - 2*r⟩],0⟩]
  |2=> [⟨[⟨0,28000,32000,r⟩,⟨1,18000,22000,2 - 2*r⟩],1⟩]
  |4=> [⟨[⟨0,25000,30000,1⟩,⟨1,20000,26000,0⟩,⟨2,0,5000,0⟩],0⟩]
  |5=> [⟨[⟨1,14000,16000,0⟩,⟨2,6000,10000,3⟩],0⟩]
  |6=> [⟨[⟨1,14000,18000,1⟩,⟨3,10000,14000,0⟩],0⟩,⟨[⟨2,14000,21000,1⟩,⟨3,14500,23000,0⟩],0⟩]
  |7=> [⟨[⟨1,14000,18000,1⟩,⟨3,10000,14000,0⟩],1⟩,⟨[⟨2,14000,21000,1⟩,⟨3,14500,23000,0⟩],2⟩]
  |_=> []
def Uy (k:Nat)(o o':Int):List Signal:=match k with
  |2=> [oV o 0 1]
  |7=> [oV o 1 3,oV o' 2 3]
  |_=> []
def EY (k:Nat)(p:Par):Map:=⟨p.ver,Mo k p.lim,CS k p.r,Uy k p.o p.o',p.wk⟩
theorem WD (n:Int): ∃k p,k<8∧ParOK p∧Zu n=some (EY k p):=by
  obtain ⟨h0,h1⟩:=Ir n (show (0:Int)<16777216 by decide)
  unfold Zu
  rw [Sr (by decide) (by decide),lB]
  generalize n % 16777216=v at h0 h1
  have t: ∀m:Int,0<m→v.tdiv m=v / m:=fun m hm=>by rw [wP h0]
  have u: ∀x m:Int,0≤x→x.tmod m=x % m:=fun x m hx=>by rw [wQ hx]
  have d: ∀m:Int,0<m→0≤v / m∧v / m<16777216:=fun m hm=>⟨Int.ediv_nonneg h0 (by omega),Int.lt_of_le_of_lt (Int.ediv_le_self m h0) h1⟩
  have W: ∀m:Int,0<m→D6 (v / m)=v / m:=fun m hm=>F5 (by have:=d m hm;omega)
  rw [t 7 (by decide),t 28 (by decide),t 56 (by decide),t 1736 (by decide),t 5208 (by decide),t 208320 (by decide)]
  rw [W 7 (by decide),W 28 (by decide),W 56 (by decide),W 1736 (by decide),W 5208 (by decide),W 208320 (by decide)]
  rw [u (v / 7) _ (d 7 (by decide)).1,u (v / 28) 2 (d 28 (by decide)).1,u (v / 28) 31 (d 28 (by decide)).1,u (v / 56) 31 (d 56 (by decide)).1,u (v / 56) 17 (d 56 (by decide)).1,u (v / 1736) _ (d 1736 (by decide)).1,u (v / 5208) _ (d 5208 (by decide)).1,u (v / 208320) _ (d 208320 (by decide)).1,u v _ h0,u (v / 28) 5 (d 28 (by decide)).1]
  have b1:=Ir (v / 7) (show (0:Int)<4 by decide)
  have b2:=Ir (v / 28) (show (0:Int)<2 by decide)
  have b3:=Ir (v / 28) (show (0:Int)<31 by decide)
  have b4:=Ir (v / 56) (show (0:Int)<31 by decide)
  have b5:=Ir (v / 56) (show (0:Int)<17 by decide)
  have b6:=Ir (v / 5208) (show (0:Int)<40 by decide)
  have b7:=Ir (v / 208320) (show (0:Int)<3 by decide)
  have b8:=Ir v (show (0:Int)<7 by decide)
  have b9:=Ir (v / 28) (show (0:Int)<5 by decide)
  generalize v / 7 % 4=q1 at b1
  generalize v / 28 % 2=q2 at b2
  generalize v / 28 % 31=q3 at b3
  generalize v / 56 % 31=q4 at b4
  generalize v / 56 % 17=q5 at b5
  generalize v / 5208 % 40=q6 at b6
  generalize v / 208320 % 3=q7 at b7
  generalize v % 7=q8 at b8
  generalize v / 28 % 5=q9 at b9
  have e1: ∃lim:Int,C0 ([1500,600,1000,300]:List Int) q1=some lim∧(lim=1500∨lim=600∨lim=1000∨lim=300):=by
    rcases (show q1=0∨q1=1∨q1=2∨q1=3 by omega)with rfl|rfl|rfl|rfl
    ·exact ⟨1500,rfl,by decide⟩
    ·exact ⟨600,rfl,by decide⟩
    ·exact ⟨1000,rfl,by decide⟩
    ·exact ⟨300,rfl,by decide⟩
  obtain ⟨lim,e1,hlim⟩:=e1
  rw [e1,lB]
  have ew: ∀(L:List Lane) (Z:List Zone) (S:List Signal),∃wk,(wk= []∨∃b l,0≤b∧b<40∧0≤l∧l≤400∧wk= [⟨0,10000,15000,b,b+20,l⟩])∧
   (cond (v / 1736 % 3==1) (some (Map.mk q9 L Z S [(Work.mk 0 10000 15000 q6 (D6 (q6+20)) (D6 (q7*200)))])) (some (Map.mk q9 L Z S [])))=some ⟨q9,L,Z,S,wk⟩:=by
    intro L Z S
    cases v / 1736 % 3==1
    ·exact ⟨[], .inl rfl,rfl⟩
    ·exact ⟨[⟨0,10000,15000,q6,q6+20,q7*200⟩], .inr ⟨q6,q7*200,by omega,by omega,by omega,by omega,rfl⟩,by rw [F5 (by omega),F5 (by omega)];rfl⟩
  have er:D6 (2 - D6 (2*q2))=2 - 2*q2:=by rw [F5 (n:=2*q2) (by omega),F5 (by omega)]
  rw [er]
  simp only [kB,lB]
  have fin: ∀(k:Nat) (o o':Int) (L:List Lane) (Z:List Zone) (S:List Signal),k<8→0≤o∧o<31→0≤o'∧o'<31→L=Mo k lim→Z=CS k q2→S=Uy k o o'→∃k p,k<8∧ParOK p∧(cond (v / 1736 % 3==1) (some (Map.mk q9 L Z S [(Work.mk 0 10000 15000 q6 (D6 (q6+20)) (D6 (q7*200)))])) (some (Map.mk q9 L Z S [])))=some (EY k p):=by
    intro k o o' L Z S hk h1 h2 e1 e2 e3
    obtain ⟨wk,w1,w2⟩:=ew L Z S
    subst e1 e2 e3
    exact ⟨k,⟨lim,q2,o,o',q9,wk⟩,hk,⟨hlim,by dsimp only;omega,h1,h2,b9,w1⟩,w2⟩
  rcases (show q8=0∨q8=1∨q8=2∨q8=3∨q8=4∨q8=5∨q8=6 by omega)with rfl|rfl|rfl|rfl|rfl|rfl|rfl
  ·exact fin 0 0 0 _ _ _ (by decide) (by decide) (by decide) rfl rfl rfl
  ·exact fin 1 0 0 _ _ _ (by decide) (by decide) (by decide) rfl rfl rfl
  ·exact fin 2 q3 0 _ _ _ (by decide) b3 (by decide) rfl rfl rfl
  ·exact fin 3 0 0 _ _ _ (by decide) (by decide) (by decide) rfl rfl rfl
  ·exact fin 4 0 0 _ _ _ (by decide) (by decide) (by decide) rfl rfl rfl
  ·exact fin 5 0 0 _ _ _ (by decide) (by decide) (by decide) rfl rfl rfl
  ·rcases (show q2=0∨q2=1 by omega)with rfl|rfl
   ·exact fin 6 0 0 _ _ _ (by decide) (by decide) (by decide) rfl rfl rfl
   ·exact fin 7 q4 q5 _ _ _ (by decide) b4 (by omega) rfl rfl rfl
theorem ZZ:((List.range 8).all fun k=>([1500,600,1000,300]:List Int).all fun lim=>([0,1]:List Int).all fun r=>(@Bx V8) (EY k ⟨lim,r,0,0,0,[]⟩)==some 0)=true:=by decide+kernel
theorem TB (k:Nat)(lim:Int):(Mo k lim).length≤4∧∀l∈Mo k lim,l.Curve_.Pts.length=2∧l.Next.length≤2:=by
  unfold Mo
  split<;>simp [QE]
theorem HE (k:Nat)(r:Int):(CS k r).length≤2∧∀z∈CS k r,z.Parts.length≤3:=by
  unfold CS
  split<;>simp
theorem WE (k:Nat)(o o':Int):(Uy k o o').length≤2∧∀s∈Uy k o o',s.Phases.length=4∧∀p∈s.Phases,p.Green.length≤1:=by
  unfold Uy
  split<;>simp [oV]
theorem YA {m:Map}{k:Nat}{lim r o o':Int}(h1:m.Lanes=Mo k lim)(h2:m.Zones=CS k r)(h3:m.Signals=Uy k o o')(h4:m.Works.length≤1):BearM m:=by
  obtain ⟨a1,a2⟩:=TB k lim
  obtain ⟨b1,b2⟩:=HE k r
  obtain ⟨c1,c2⟩:=WE k o o'
  refine ⟨⟨by rw [h1];omega,fun l hl=> ?_⟩,⟨by rw [h3];omega,fun s hs=>⟨?_,fun p hp=> ?_⟩⟩,⟨by rw [h2];omega,fun z hz=> ?_⟩,⟨by omega⟩⟩
  ·rw [h1]at hl;have:=a2 l hl;omega
  ·rw [h3]at hs;have:=(c2 s hs).1;omega
  ·rw [h3]at hs;have:=(c2 s hs).2 p hp;omega
  ·rw [h2]at hz;have:=b2 z hz;omega
theorem ParOK.wk1 {p:Par}(h:ParOK p):p.wk.length≤1:=by
  rcases h.wk with e|⟨b,l,_,_,_,_,e⟩<;>rw [e]<;>simp
theorem fX {k:Nat}{p:Par}(h:ParOK p):BearM (EY k p):=YA rfl rfl rfl h.wk1
theorem pR {k:Nat}{p:Par}(hk:k<8)(h:ParOK p):ValR (EY k ⟨p.lim,p.r,0,0,0,[]⟩):=by
  have h1:=lY.1 ZZ k (List.mem_range.2 hk)
  have h2:=lY.1 h1 p.lim (by have:=h.lim;simp;omega)
  have h3:=lY.1 h2 p.r (by have:=h.r;simp;omega)
  have h4:=roads_Check_le _ _ (eq_of_beq h3)
  have h5:=Oa (m:=EY k ⟨p.lim,p.r,0,0,0,[]⟩) (YA rfl rfl rfl (wI 1))
  rw [h4]at h5
  exact chkR_zero.1 (lD h5).symm
/-- Another version, other offsets, other works. -/
theorem ValR.change {L:List Lane}{Z:List Zone}{S S':List Signal}{W W':List Work}{v v':Int}(V:ValR ⟨v,L,Z,S,W⟩)(hv:0≤v'∧v'≤1099511627776)(hl:S'.length=S.length)(hs: ∀s∈S',World.signalE ⟨v,L,Z,S,W⟩ 0 s=none)(hw:W'.length≤8)(hw': ∀w∈W',World.workE ⟨v,L,Z,S,W⟩ 0 w=none):ValR ⟨v',L,Z,S',W'⟩:=by
  refine ⟨hv,V.pos,V.lanes,V.zones,by show S'.length≤4;rw [hl];exact V.signals,hw,V.laneE,V.nextE,?_,?_,?_⟩
  ·rw [firstE_none]
   intro j a ha
   exact hs a (lG ha)
  ·have:=V.zoneE
   rw [firstE_none]at this ⊢
   intro j a ha
   have:=this j a ha
   unfold World.zoneE at this ⊢
   dsimp only at this ⊢
   rw [hl]
   exact this
  ·rw [firstE_none]
   intro j a ha
   exact hw' a (lG ha)
theorem aA (k:Nat)(o o' a a':Int):(Uy k o o').length=(Uy k a a').length:=by unfold Uy;split<;>rfl
theorem fY {k:Nat}{o o':Int}(h:0≤o∧o<31)(h':0≤o'∧o'<31){m:Map}(hm:m.Lanes.length=(Mo k 0).length): ∀s∈Uy k o o',signalE m 0 s=none:=by
  have key: ∀(off a b:Int),0≤off∧off<31→0≤a∧a<m.Lanes.length→0≤b∧b<m.Lanes.length→signalE m 0 (oV off a b)=none:=by
    intro off a b h1 h2 h3
    unfold signalE oV
    simp only [lL,lN]
    rw [bR (by decide),bR (by decide),bR (by simp [Vg];omega),bR (by simp [Vg]),bR]
    simp only [bH,List.any_nil,Ck,Bool.and_true,Bool.or_false,bW,bY,bV,Bool.not_eq_true',not_or,Bool.not_eq_false,bU,bM]
    omega
  intro s hs
  unfold Uy at hs
  split at hs
  ·rw [show (Mo 2 0).length=2 from rfl]at hm
   simp only [bI]at hs
   subst hs
   exact key _ _ _ h (by omega) (by omega)
  ·rw [show (Mo 7 0).length=4 from rfl]at hm
   simp only [lU,List.not_mem_nil,or_false]at hs
   rcases hs with rfl|rfl
   ·exact key _ _ _ h (by omega) (by omega)
   ·exact key _ _ _ h' (by omega) (by omega)
  ·cases hs
theorem WF (k:Nat)(lim:Int):(Mo k lim).length=(Mo k 0).length:=by unfold Mo;split<;>rfl
theorem Zw (c:Int)(h:(@Cz V8) ⟨[⟨0,0⟩,⟨c,0⟩]⟩=some c):Rc ⟨[⟨0,0⟩,⟨c,0⟩]⟩=c:=by
  have h1:=curve_Length_le _ _ h
  rw [Wx _ (by simp)]at h1
  exact lD h1
/-- The first lane of a map of the kit: a road, long enough. -/
theorem HF (k:Nat)(lim:Int): ∃l,(Mo k lim)[0]? =some l∧l.Kind=1∧l.Limit=lim∧20000≤Rc l.Curve_∧Rc l.Curve_≤60000:=by
  have e6:=Zw 60000 (by decide+kernel)
  have e5:=Zw 50000 (by decide+kernel)
  have e3:=Zw 30000 (by decide+kernel)
  have e2:=Zw 20000 (by decide+kernel)
  unfold Mo
  split
  ·exact ⟨_,rfl,rfl,rfl,by show 20000≤Rc ⟨[⟨0,0⟩,⟨60000,0⟩]⟩∧Rc ⟨[⟨0,0⟩,⟨60000,0⟩]⟩≤60000;rw [e6];decide⟩
  ·exact ⟨_,rfl,rfl,rfl,by show 20000≤Rc ⟨[⟨0,0⟩,⟨50000,0⟩]⟩∧Rc ⟨[⟨0,0⟩,⟨50000,0⟩]⟩≤60000;rw [e5];decide⟩
  ·exact ⟨_,rfl,rfl,rfl,by show 20000≤Rc ⟨[⟨0,0⟩,⟨50000,0⟩]⟩∧Rc ⟨[⟨0,0⟩,⟨50000,0⟩]⟩≤60000;rw [e5];decide⟩
  ·exact ⟨_,rfl,rfl,rfl,by show 20000≤Rc ⟨[⟨0,0⟩,⟨30000,0⟩]⟩∧Rc ⟨[⟨0,0⟩,⟨30000,0⟩]⟩≤60000;rw [e3];decide⟩
  ·exact ⟨_,rfl,rfl,rfl,by show 20000≤Rc ⟨[⟨0,0⟩,⟨30000,0⟩]⟩∧Rc ⟨[⟨0,0⟩,⟨30000,0⟩]⟩≤60000;rw [e3];decide⟩
  ·exact ⟨_,rfl,rfl,rfl,by show 20000≤Rc ⟨[⟨0,0⟩,⟨20000,0⟩]⟩∧Rc ⟨[⟨0,0⟩,⟨20000,0⟩]⟩≤60000;rw [e2];decide⟩
  ·exact ⟨_,rfl,rfl,rfl,by show 20000≤Rc ⟨[⟨0,0⟩,⟨20000,0⟩]⟩∧Rc ⟨[⟨0,0⟩,⟨20000,0⟩]⟩≤60000;rw [e2];decide⟩
theorem pS {m:Map}{l:Lane}(hl:m.Lanes[0]? =some l)(hk:l.Kind=1){w:Work}(h:w.Lane_=0∧0≤w.From∧w.From≤w.To∧w.To≤Rc l.Curve_∧0≤w.Begin∧w.Begin<w.End∧w.End≤1099511627776∧0≤w.Limit∧w.Limit≤2000):workE m 0 w=none:=by
  obtain ⟨h1,h2,h3,h4,h5,h6,h7,h8,h9⟩:=h
  have hlen:=G9 hl
  unfold workE Q4
  rw [h1,show ((0:Int).toNat)=0 from rfl,hl,bR (by omega),bR]
  simp only [lF,Option.getD_some,Option.get!_some,hk,Vg,V9,if_true,bV,bM,Bool.not_eq_true',not_or,Bool.not_eq_false,bU]
  omega
/-- A map of the kit is valid, with such works. -/
theorem fZ {k:Nat}{p:Par}(hk:k<8)(h:ParOK p){W:List Work}(hw:W.length≤8)(hW: ∀w∈W,w.Lane_=0∧0≤w.From∧w.From≤w.To∧w.To≤Q4 (EY k p) 0∧0≤w.Begin∧w.Begin<w.End∧w.End≤1099511627776∧0≤w.Limit∧w.Limit≤2000):ValR ⟨p.ver,Mo k p.lim,CS k p.r,Uy k p.o p.o',W⟩:=by
  have V:=pR hk h
  obtain ⟨l,l1,l2,l3,l4,l5⟩:=HF k p.lim
  have hv:=h.ver
  refine ValR.change (v:=0) (S:=Uy k 0 0) (W:= []) V (by omega) (aA k _ _ _ _) (fun s hs=>fY h.o h.o' (by exact WF k p.lim) s hs) hw (fun w hwm=> ?_)
  obtain ⟨a1,a2,a3,a4,a5,a6,a7,a8,a9⟩:=hW w hwm
  refine pS (l:=l) l1 l2 ⟨a1,a2,a3,?_,a5,a6,a7,a8,a9⟩
  have:Q4 (EY k p) 0=Rc l.Curve_:=by
    unfold Q4 EY
    dsimp only
    rw [show ((0:Int).toNat)=0 from rfl,l1];rfl
  omega
theorem aB (k:Nat)(p:Par):20000≤Q4 (EY k p) 0∧Q4 (EY k p) 0≤60000:=by
  obtain ⟨l,l1,l2,l3,l4,l5⟩:=HF k p.lim
  unfold Q4 EY
  dsimp only
  rw [show ((0:Int).toNat)=0 from rfl,l1]
  exact ⟨l4,l5⟩
theorem kC {k:Nat}{p:Par}(hk:k<8)(h:ParOK p):ValR (EY k p):=by
  have hl:=aB k p
  refine fZ hk h (wL h.wk1 (by decide)) (fun w hw=> ?_)
  rcases h.wk with e|⟨b,l,h1,h2,h3,h4,e⟩
  ·rw [e]at hw;cases hw
  ·rw [e]at hw
   simp only [bI]at hw
   subst hw
   dsimp only
   omega
/-! ### Limits -/
end Go.Abs.World
namespace Go.Abs
theorem Cm {α β:Type}{g:Nat→α→Option β}{x:β}: ∀{l:List α} {i:Nat},x∈Gm g i l↔∃j a,l[j]? =some a∧g (i+j) a=some x
  | [],i=>by simp [Gm]
  |a::r,i=>by
   unfold Gm
   have ih:=Cm (g:=g) (x:=x) (l:=r) (i:=i+1)
   have sh:(∃j b,(a::r)[j]? =some b∧g (i+j) b=some x)↔g i a=some x∨∃j b,r[j]? =some b∧g (i+1+j) b=some x:=by
     constructor
     ·rintro ⟨j,b,h1,h2⟩
      cases j with
      |zero=>simp at h1;subst h1;exact .inl h2
      |succ j=>exact .inr ⟨j,b,by simpa using h1,by rwa [show i+1+j=i+ (j+1) by omega]⟩
     ·rintro (h|⟨j,b,h1,h2⟩)
      ·exact ⟨0,a,rfl,h⟩
      ·exact ⟨j+1,b,by simpa using h1,by rwa [show i+ (j+1)=i+1+j by omega]⟩
   rw [sh,← ih]
   cases h:g i a with
   |none=>simp
   |some b=>simp [eq_comm]
end Go.Abs
namespace Go.Abs.World
open Go Go.Abs
theorem mem_before {m:Map}{k x:Int}:x∈Cl m k↔∃(i:Nat) (l:Lane),m.Lanes[i]? =some l∧k∈l.Next∧x=(i:Int):=by
  unfold Cl
  rw [Cm]
  refine exists_congr fun i=>exists_congr fun l=>and_congr_right fun _=> ?_
  rw [wK]
  by_cases h:l.Next.contains k=true
  ·rw [bQ h]
   simp only [Option.some.injEq]
   exact ⟨fun e=>⟨by simpa using h,e.symm⟩,fun e=>e.2.symm⟩
  ·rw [bR h]
   simp only [reduceCtorEq,false_iff,not_and]
   intro hk
   exact absurd (by simpa using hk) h
theorem mem_origins {m:Map}{x:Int}:x∈T3 m↔0≤x∧x<m.Lanes.length∧Cl m x= []:=by
  unfold T3
  rw [Cm]
  constructor
  ·rintro ⟨i,l,h1,h2⟩
   have:=G9 h1
   split at h2
   ·rename_i h
    cases h2
    rw [wK]at h ⊢
    exact ⟨by omega,by omega,l8 h⟩
   ·cases h2
  ·rintro ⟨h0,h1,h2⟩
   have hlt:x.toNat<m.Lanes.length:=by omega
   refine ⟨x.toNat,m.Lanes[x.toNat],lH hlt,?_⟩
   rw [wK,show ((x.toNat:Nat):Int)=x by omega,h2];rfl
theorem QF {m:Map}(V:ValR m){p k:Int}(h:p∈Cl m k):0≤p∧p<k∧k<m.Lanes.length∧Sq m p.toNat k=true:=by
  obtain ⟨i,l,h1,h2,rfl⟩:=mem_before.1 h
  have hk:=V.next h1 h2
  refine ⟨by omega,hk.1,hk.2,?_⟩
  rw [Zv V,lZ,wF]
  refine ⟨k,by unfold nextOf;rw [h1];exact h2,by simp⟩
/-- Each lane is a source, or a source leads to it. -/
theorem NV {m:Map}(V:ValR m): ∀(n:Nat) (a:Int),0≤a→a<m.Lanes.length→a<n→∃s∈T3 m,s=a∨Sq m s.toNat a=true
  |0,a,h0,h1,h2=>by omega
  |n+1,a,h0,h1,h2=>by
   cases hb:Cl m a with
   |nil=>exact ⟨a,mem_origins.2 ⟨h0,h1,hb⟩, .inl rfl⟩
   |cons p r=>
    obtain ⟨p0,p1,p2,p3⟩:=QF V (show p∈Cl m a by rw [hb];simp)
    obtain ⟨s,s1,s2⟩:=NV V n p p0 (by omega) (by omega)
    refine ⟨s,s1, .inr ?_⟩
    rcases s2 with rfl|s2
    ·exact p3
    ·have e:((p.toNat:Nat):Int)=p:=by omega
     exact HD V (b:=p.toNat) p3 m.Lanes.length s.toNat (by omega) (by rw [e];exact s2)
/-! ### How long lanes are -/
theorem gA: ∀(l:List Int) (s:Int),(∀x∈l,0≤x∧x≤1048576)→0≤s→s+1048576*l.length≤9000000000000000000→s≤CP s l∧CP s l≤s+1048576*l.length
  | [],s,_,_,_=>by simp [CP]
  |a::r,s,h,h0,h1=>by
   have ha:=h a (by simp)
   simp only [lL]at h1 ⊢
   rw [CP,F5 (by omega)]
   have:=gA r (s+a) (fun x hx=>h x (by simp [hx])) (by omega) (by omega)
   omega
theorem gB: ∀{l:List Spot} {last:Option CurveVector},Good last l→∀x∈AL l,1000≤x∧x≤1048576:=by
  intro l last h
  induction h with
  |one last p=>intro x hx;simp [AL]at hx
  |cons last p q r h1 h2 h3 h4 h ih=>
   intro x hx
   rw [Ut,lU]at hx
   rcases hx with rfl|hx
   ·exact ⟨h2,h3⟩
   ·exact ih x hx
theorem kD {c:Curve}(h:Ct c.Pts=0):1000≤Rc c∧Rc c≤16777216:=by
  have V:=checkM_zero.1 h
  unfold Rc Me
  rw [bQ h]
  have h16:=V.most
  have h2:=V.two
  have hm:=gB V.good
  cases hp:c.Pts with
  |nil=>rw [hp]at h2;simp at h2
  |cons p r=>
   rw [hp]at hm h16 h2
   cases r with
   |nil=>simp at h2
   |cons q r=>
    simp only [lL]at h16
    rw [Ut]at hm ⊢
    have ha:=hm _ (List.mem_cons_self)
    have hl:=Tm r q
    rw [CP,F5 (by omega),Int.zero_add]
    have:=gA (AL (q::r)) (rt (N3 (R5 p q) (R5 p q))) (fun x hx=>by have:=hm x (List.mem_cons_of_mem _ hx);omega) (by omega) (by rw [hl];omega)
    rw [hl]at this
    omega
theorem ValR.long {m:Map}(V:ValR m){k:Int}(h0:0≤k)(h1:k<m.Lanes.length):1000≤Q4 m k∧Q4 m k≤16777216:=by
  obtain ⟨l,e1,e2⟩:=Tp h0 h1
  unfold Q4
  rw [e1]
  exact kD (V.laneOK e1).curve
/-! ### Routes -/
def Ll (m:Map):Int→List Int→Bool
  |_,[]=>true
  |a,b::r=>(nextOf m a.toNat).contains b&&Ll m b r
noncomputable def P3 (m:Map)(r:List Int):Int:=
  if Ux m≠0 then Ux m
  else match r with
    | []=>13
    |a::t=>if 7<t.length∨a<0∨(m.Lanes.length:Int)≤a∨Cl m a≠ []∨Ll m a t=false then 13 else 0
/-- What a route is. -/
structure RouteOK (m:Map)(a:Int)(t:List Int):Prop where
  val:ValR m
  most:t.length≤7
  first:0≤a∧a<m.Lanes.length
  source:Cl m a= []
  chain:Ll m a t=true
theorem chkRoute_zero {m:Map}{r:List Int}:P3 m r=0↔∃a t,r=a::t∧RouteOK m a t:=by
  unfold P3
  constructor
  ·intro h
   split at h
   ·exact absurd h (by assumption)
   ·rename_i h1
    have V:=chkR_zero.1 (Decidable.not_not.1 h1)
    split at h
    ·cases h
    ·rename_i a t
     split at h
     ·cases h
     ·rename_i h2
      exact ⟨a,t,rfl,V,by omega,by omega,Decidable.not_not.1 fun q=>h2 (.inr (.inr (.inr (.inl q)))),by
        cases q:Ll m a t with
        |true=>rfl
        |false=>exact absurd (.inr (.inr (.inr (.inr q)))) h2⟩
  ·rintro ⟨a,t,rfl,V,h1,h2,h3,h4⟩
   rw [bR (by rw [chkR_zero.2 V];simp)]
   dsimp only
   rw [bR]
   rintro (q|q|q|q|q)
   ·omega
   ·omega
   ·omega
   ·exact q h3
   ·rw [h4]at q;cases q
theorem NW {m:Map}(V:ValR m): ∀{t:List Int} {a:Int},Ll m a t=true→0≤a→∀x∈t,a<x∧x<m.Lanes.length
  | [],_,_,_,x,hx=>by cases hx
  |b::r,a,h,h0,x,hx=>by
   rw [Ll,bU,List.contains_iff_mem]at h
   have hb:=V.nextOf h.1
   rcases lU.1 hx with rfl|hx
   ·omega
   ·have:=NW V h.2 (by omega) x hx;omega
theorem RouteOK.mem {m:Map}{a:Int}{t:List Int}(R:RouteOK m a t){x:Int}(hx:x∈a::t):0≤x∧x<m.Lanes.length:=by
  have:=R.first
  rcases lU.1 hx with rfl|hx
  ·exact this
  ·have:=NW R.val R.chain (by omega) x hx;omega
theorem WG {m:Map}(B:BearM m)(V:ValR m)(l:List Int)(hl:l.length≤1000000): ∀(r:List Int) (i:Nat) (a:Int),l.drop i=r→i≤l.length→0≤a→a<m.Lanes.length→loop (Q3 m l) (a,(i:Int))=some (if Ll m a r=true then .inl ()else .inr 13):=by
  intro r
  induction r with
  |nil=>
   intro i a hi hil h0 h1
   have:=N8 hi
   obtain rfl:i=l.length:=by omega
   refine C6 ?_
   unfold Q3
   rw [I0];rfl
  |cons b r ih=>
   intro i a hi hil h0 h1
   have hlt:=M9 hi
   have hb:=U6 hi
   obtain ⟨ln,e1,e2⟩:=Tp h0 h1
   have hs:Q3 m l (a,(i:Int))=some (if ln.Next.contains b=true then .go (b,((i+1:Nat):Int))else .out (.inr 13)):=by
     unfold Q3
     dsimp only
     rw [J6 hlt,C3 hb,bO,lB,e2,lB,Zg _ (B.toBear.pts _ (lG e1)).2,lB,G7 hlt (by omega)]
     cases ln.Next.contains b<;>rfl
   have hn:nextOf m a.toNat=ln.Next:=by unfold nextOf;rw [e1];rfl
   rw [Ll,hn]
   cases q:ln.Next.contains b
   ·rw [q]at hs;rw [C6 hs];rfl
   ·rw [q]at hs
    have hbm:=V.next e1 (List.contains_iff_mem.1 q)
    rw [J2 hs,ih (i+1) b (K5 hi) (by omega) (by omega) (by omega),bS]
theorem BK {m:Map}(B:BearM m)(r:List Int)(hr:r.length≤1000000):W9 m r=some (P3 m r):=by
  unfold W9 P3
  rw [Oa B,lB]
  by_cases q:Ux m=0
  ·have V:=chkR_zero.1 q
   rw [bR (by simpa using q),show (Ux m !=0)=false by simpa using q,bP]
   cases r with
   |nil=>rfl
   |cons a t=>
    dsimp only
    simp only [lL]at hr ⊢
    by_cases h8:7<t.length
    ·rw [bQ (.inl h8),show ((((t.length+1:Nat):Int)==0)||(decide (((t.length+1:Nat):Int)>8)))=true by simp;omega];rfl
    ·rw [show ((((t.length+1:Nat):Int)==0)||(decide (((t.length+1:Nat):Int)>8)))=false by simp;omega]
     rw [show C0 (a::t) 0=some a from rfl]
     simp only [bX,bO,lB,bY]
     by_cases h0:a<0
     ·rw [bQ (.inr (.inl h0)),bJ h0];rfl
     ·rw [bK h0]
      simp only [bX,bO,lB,bY]
      by_cases h1:(m.Lanes.length:Int)≤a
      ·rw [bQ (.inr (.inr (.inl h1))),show decide (a≥(m.Lanes.length:Int))=true from bJ h1];rfl
      ·rw [show decide (a≥(m.Lanes.length:Int))=false from bK (by omega)]
       simp only [bX,bO,bY]
       rw [lB,ZY B,lB]
       by_cases hb:Cl m a= []
       ·rw [hb]
        have e1:AG (a::t) 1 ((t.length+1:Nat):Int)=some t:=by
          unfold AG
          rw [bQ (by simp;omega)]
          simp
        rw [e1,show decide ((([]:List Int).length:Int)>0)=false from rfl,bP,lB]
        have:=WG B V t (by omega) t 0 a rfl (by omega) (by omega) (by omega)
        rw [show ((0:Nat):Int)=0 from rfl]at this
        rw [this]
        by_cases hc:Ll m a t=true
        ·rw [bQ hc,bR (by rw [hc];simp;omega)];rfl
        ·rw [bR hc,bQ (.inr (.inr (.inr (.inr (by simpa using hc)))))];rfl
       ·rw [bQ (.inr (.inr (.inr (.inl hb)))),show decide (((Cl m a).length:Int)>0)=true from bJ (by have:=List.length_pos_iff.2 hb;omega)];rfl
  ·rw [bQ q,show (Ux m !=0)=true by simpa using q];rfl
/-- Where the lanes of a route begin. -/
noncomputable def P4 (m:Map):Int→List Int→List Int
  |_,[]=> []
  |s,a::r=>s::P4 m (s+Q4 m a) r
noncomputable def Ec (m:Map):Int→List Int→Int
  |s,[]=>s
  |s,a::r=>Ec m (s+Q4 m a) r
theorem Km (m:Map): ∀(r:List Int) (s:Int),(P4 m s r).length=r.length
  | [],_=>rfl
  |_::r,_=>by rw [P4,lL,Km m r,lL]
noncomputable def Av (m:Map)(r:List Int):RoadsWay:=if P3 m r=0 then ⟨m,r,P4 m 0 r,Ec m 0 r⟩else ⟨⟨0,[],[],[],[]⟩,[],[],0⟩
theorem Ro {m:Map}(B:BearM m)(r:List Int)(hr:r.length≤1000000):Z8 m r=some (Av m r):=by
  unfold Z8 Av
  rw [BK B r hr,lB]
  by_cases q:P3 m r=0
  ·rw [bQ q,q]
   obtain ⟨a,t,rfl,R⟩:=chkRoute_zero.1 q
   have key: ∀(l:List Int) (i:Nat) (s:Int) (st:List Int),(a::t).drop i=l→i≤(a::t).length→0≤s→s≤16777216*i→st.length=i→loop (W5 m (a::t)) ((i:Int),(st,s))=some (st++P4 m s l,Ec m s l):=by
     intro l
     induction l with
     |nil=>
      intro i s st hi hil _ _ _
      have:=N8 hi
      obtain rfl:i=(a::t).length:=by omega
      refine C6 ?_
      unfold W5
      rw [I0,P4,Ec,lP];rfl
     |cons x l ih=>
      intro i s st hi hil h0 h1 h2
      have hlt:=M9 hi
      have hx:=U6 hi
      have hm:=R.mem (lG hx)
      have hl:=R.val.long hm.1 hm.2
      have hm7:=R.most
      simp only [lL]at hlt
      rw [J2 (s':=(((i+1:Nat):Int),(st++ [s],s+Q4 m x)))]
      ·rw [ih (i+1) _ _ (K5 hi) (by simp;omega) (by omega) (by omega) (by simp [h2]),P4,Ec,lO];rfl
      ·unfold W5
       dsimp only
       rw [J6 (by simpa using hlt),C3 hx,bO,lB,Ey (by simp;omega),lB,IM B.toBear hm.1 hm.2,lB,G7 hlt (by omega),QN (by omega)]
   have:=key (a::t) 0 0 [] rfl (by omega) (by decide) (by decide) rfl
   rw [show ((0:Nat):Int)=0 from rfl]at this
   show (loop (W5 m (a::t)) (0,([],0))).bind _=_
   rw [this];rfl
  ·rw [bR q,show (P3 m r !=0)=true by simpa using q];rfl
/-- The place in a route at which it enters a zone. -/
noncomputable def Cc (m:Map)(r:List Int)(k:Int):Int:=match m.Zones[k.toNat]? with
  |some z=>if 0≤k∧P3 m r=0 then EV (fun l=>(Jr z l).2) r else -1
  |none=> -1
theorem gC {m:Map}(B:BearM m)(r:List Int)(hr:r.length≤1000000)(k:Int):Hv m r k=some (Cc m r k):=by
  unfold Hv Cc
  rw [Ro B r hr,lB]
  by_cases h:k<0∨(m.Zones.length:Int)≤k
  ·rw [show ((decide (k<0))||(decide (k≥(m.Zones.length:Int))))=true by simpa using h,bO]
   cases hz:m.Zones[k.toNat]? with
   |none=>rfl
   |some z=>
    have:=G9 hz
    dsimp only
    rw [bR (fun x=>by have:=x.1;omega)]
  ·obtain ⟨z,z1,z2⟩:=XZ (m:=m) (k:=k) (by omega) (by omega)
   rw [show ((decide (k<0))||(decide (k≥(m.Zones.length:Int))))=false by rw [bZ];simpa using h,bP,z1]
   dsimp only
   have hp:=B.toBearZ.parts z (lG z1)
   have key: ∀l:List Int,l.length≤1000000→I8 l m k=some (EV (fun l=>(Jr z l).2) l):=by
     intro l hl
     unfold I8
     rw [Qa l (fun l=>(Jr z l).2) (by omega) (fun i a h=>by
      have hi:=G9 h
      unfold H8 Ad
      rw [J6 hi,C3 h,bO,lB,z2,lB,kA hp,lB,lB]
      cases (Jr z a).2<;>rfl) (by unfold H8;rw [I0];rfl)]
   unfold Av
   by_cases q:P3 m r=0
   ·rw [bQ q,bQ ⟨by omega,q⟩,key r hr];rfl
   ·rw [bR q,bR (fun x=>q x.2),key [] (by simp)];rfl
/-- A walk that goes on until it can't. -/
def HG (m:Map):Nat→Int→List Int→Bool
  |c,a,[]=>(nextOf m a.toNat).isEmpty||c==0
  |c,a,b::r=>(nextOf m a.toNat).contains b&&decide (0<c)&&HG m (c - 1) b r
theorem LB {m:Map}: ∀{r:List Int} {c:Nat} {a:Int},HG m c a r=true→Ll m a r=true∧r.length≤c
  | [],c,a,_=>⟨rfl,wI _⟩
  |b::r,c,a,h=>by
   rw [HG,bU,bU,bM]at h
   have:=LB h.2
   rw [Ll,h.1.1,this.1]
   refine ⟨rfl,?_⟩
   simp only [lL];omega
theorem TC {m:Map}(V:ValR m): ∀(f:Nat) (x a:Int) (c:Nat) (out:List Int),0≤x→x<16777216→0≤a→a<m.Lanes.length→m.Lanes.length≤a.toNat+f→out.length+c=8→
    ∃r,loop (La m) (x,a,out)=some (out++r)∧HG m c a r=true
  |0,x,a,c,out,h0,h1,a0,a1,hf,hc=>by omega
  |f+1,x,a,c,out,h0,h1,a0,a1,hf,hc=>by
   obtain ⟨ln,e1,e2⟩:=Tp a0 a1
   have hn:nextOf m a.toNat=ln.Next:=by unfold nextOf;rw [e1];rfl
   have hfew:=(V.laneOK e1).few
   by_cases q:ln.Next.length=0∨c=0
   ·refine ⟨[],?_,?_⟩
    ·rw [lP]
     refine C6 ?_
     unfold La
     dsimp only
     rw [e2,lB]
     rw [show ((decide ((ln.Next.length:Int)>0))&& (decide ((out.length:Int)<8)))=false by simp;omega];rfl
    ·rw [HG,hn]
     rcases q with q|q
     ·rw [l8 q];rfl
     ·rw [q,beq_self_eq_true,Bool.or_true]
   ·have hm:=Ir x (show (0:Int)< (ln.Next.length:Int) by omega)
    have hlt:(x % (ln.Next.length:Int)).toNat<ln.Next.length:=by omega
    have hbm:=V.next e1 (List.getElem_mem hlt)
    have hx:0≤x / (ln.Next.length:Int)∧x / (ln.Next.length:Int)<16777216:=⟨Int.ediv_nonneg h0 (by omega),Int.lt_of_le_of_lt (Int.ediv_le_self _ h0) h1⟩
    obtain ⟨r,r1,r2⟩:=TC V f (x / (ln.Next.length:Int)) ln.Next[(x % (ln.Next.length:Int)).toNat] (c - 1) (out++ [ln.Next[(x % (ln.Next.length:Int)).toNat]]) hx.1 hx.2 (by omega) (by omega) (by omega) (by simp;omega)
    refine ⟨ln.Next[(x % (ln.Next.length:Int)).toNat]::r,?_,?_⟩
    ·rw [lO]at r1
     rw [J2 (s':=(x / (ln.Next.length:Int),ln.Next[(x % (ln.Next.length:Int)).toNat],out++ [ln.Next[(x % (ln.Next.length:Int)).toNat]]))]
     ·exact r1
     ·unfold La
      dsimp only
      rw [e2,lB]
      rw [show ((decide ((ln.Next.length:Int)>0))&& (decide ((out.length:Int)<8)))=true by simp;omega,bO,lB,lB]
      unfold Vl PN
      rw [bR (by omega),lB,wQ h0,wP h0]
      have e3:C0 ln.Next (x % (ln.Next.length:Int))=some ln.Next[(x % (ln.Next.length:Int)).toNat]:=by
        unfold C0
        rw [bQ hm.1,lH hlt]
      rw [e3,lB,bR (by omega),lB,Ey (by simp;omega),lB]
      have:IntKind.wrap .i64 (x / (ln.Next.length:Int))=x / (ln.Next.length:Int):=QN (by omega)
      rw [this]
    ·rw [HG,hn,r2,Bool.and_true,bU]
     exact ⟨List.contains_iff_mem.2 (List.getElem_mem hlt),by simp;omega⟩
/-- A route of the kit: it begins at a source, and goes on until it can't. -/
theorem QG {m:Map}(B:BearM m)(V:ValR m)(n:Int): ∃a t,Jm m n=some (a::t)∧a∈T3 m∧HG m 7 a t=true:=by
  unfold Jm
  obtain ⟨s,s1,_⟩:=NV V 1 0 (by decide) (by have:=V.pos;omega) (by decide)
  have h12:=V.lanes
  have ol:(T3 m).length≤12:=wL (Uw _ _ _) h12
  have op:0< (T3 m).length:=List.length_pos_iff.2 (fun e=>by rw [e]at s1;cases s1)
  rw [TA B,lB,show (((T3 m).length:Int)==0)=false by simp only [beq_eq_false_iff_ne];omega,bP,Sr (by decide) (by decide),lB]
  have c:=Ir n (show (0:Int)<1048576 by decide)
  generalize n % 1048576=x at c
  unfold Vl PN
  rw [bR (by omega),lB,wQ c.1,wP c.1]
  have hm:=Ir x (show (0:Int)< ((T3 m).length:Int) by omega)
  have hlt:(x % ((T3 m).length:Int)).toNat< (T3 m).length:=by omega
  have e3:C0 (T3 m) (x % ((T3 m).length:Int))=some (T3 m)[(x % ((T3 m).length:Int)).toNat]:=by
    unfold C0
    rw [bQ hm.1,lH hlt]
  have hx:0≤x / ((T3 m).length:Int)∧x / ((T3 m).length:Int)<16777216:=⟨Int.ediv_nonneg c.1 (by omega),by have:=Int.ediv_le_self ((T3 m).length:Int) c.1;omega⟩
  rw [e3,lB,bR (by omega),lB]
  have:IntKind.wrap .i64 (x / ((T3 m).length:Int))=x / ((T3 m).length:Int):=QN (by omega)
  rw [this]
  have hmem:=List.getElem_mem hlt
  have ho:=mem_origins.1 hmem
  obtain ⟨r,r1,r2⟩:=TC V m.Lanes.length (x / ((T3 m).length:Int)) (T3 m)[(x % ((T3 m).length:Int)).toNat] 7 [(T3 m)[(x % ((T3 m).length:Int)).toNat]] hx.1 hx.2 ho.1 ho.2.1 (by omega) rfl
  exact ⟨_,r,by rw [r1];rfl,hmem,r2⟩
theorem gD {m:Map}(V:ValR m){a:Int}{t:List Int}(ha:a∈T3 m)(h:HG m 7 a t=true):RouteOK m a t:=by
  have ho:=mem_origins.1 ha
  have hf:=LB h
  exact ⟨V,hf.2,⟨ho.1,ho.2.1⟩,ho.2.2,hf.1⟩
end Go.Abs.World
/-! Lists that are sorted, and how an insertion sort makes them. -/
namespace Go.Abs
open Go
/-- What a comparison must satisfy. -/
structure LtOK {α:Type}(lt:α→α→Bool):Prop where
  asym: ∀a b,lt a b=true→lt b a=false
  trans: ∀a b c,lt b a=false→lt c b=false→lt c a=false
def Srt {α:Type}(lt:α→α→Bool)(l:List α):Prop:=l.Pairwise fun a b=>lt b a=false
section
variable {α:Type}
theorem Uz (U V:List α)(x y:α)(n:Int)(h:n=(U.length:Int)):Ln (U++x::V) n y=U++y::V:=by
  subst h
  simp [Ln]
theorem Lw (U V:List α)(x:α)(n:Int)(h:n=(U.length:Int)):C0 (U++x::V) n=some x:=by
  subst h
  simp [C0]
theorem WH {Q:List α}(h:Q≠ []): ∃Q' q,Q=Q'++ [q]:=⟨Q.dropLast,Q.getLast h,(List.dropLast_concat_getLast h).symm⟩
variable {lt:α→α→Bool}
theorem Srt.ins (L:LtOK lt){Q1 Q2:List α}{x:α}(h:Srt lt (Q1++Q2))(h1: ∀q∈Q1,lt x q=false)(h2: ∀q∈Q2,lt x q=true):Srt lt (Q1++x::Q2):=by
  unfold Srt at h ⊢
  rw [bC]at h ⊢
  refine ⟨h.1,bB.2 ⟨fun b hb=>L.asym _ _ (h2 b hb),h.2.1⟩,fun a ha b hb=> ?_⟩
  rcases lU.1 hb with rfl|hb
  ·exact h1 a ha
  ·exact h.2.2 a ha b hb
theorem LtOK.irr (L:LtOK lt)(a:α):lt a a=false:=by
  cases h:lt a a with
  |false=>rfl
  |true=>rw [L.asym a a h]at h;cases h
theorem Srt.get (L:LtOK lt){l:List α}(h:Srt lt l){i j:Nat}(hij:i≤j)(hj:j<l.length):lt l[j] l[i]=false:=by
  rcases Nat.lt_or_eq_of_le hij with h1|h1
  ·exact bD.1 h i j (by omega) hj h1
  ·subst h1;exact L.irr _
/-- The first place from which a test fails. -/
theorem kE {F:Int×Int→Option (Stp (Int×Int) Int)}(Q:Nat→Bool)(lo hi:Nat)(hle:lo≤hi)
    (hF: ∀x y:Nat,lo≤x→x<y→y≤hi→F ((x:Int),(y:Int))=some (if Q ((x+y) / 2)then .go ((((x+y) / 2+1:Nat):Int),(y:Int))else .go ((x:Int),(((x+y) / 2:Nat):Int))))
    (hstop: ∀x y:Nat,¬x<y→F ((x:Int),(y:Int))=some (.out (x:Int)))
    (mono: ∀c c',lo≤c→c≤c'→c'<hi→Q c'=true→Q c=true):
    ∃s:Nat,loop F ((lo:Int),(hi:Int))=some (s:Int)∧lo≤s∧s≤hi∧(∀c,lo≤c→c<s→Q c=true)∧∀c,s≤c→c<hi→Q c=false:=by
  have key: ∀(k x y:Nat),y - x≤k→lo≤x→x≤y→y≤hi→(∀c,lo≤c→c<x→Q c=true)→(∀c,y≤c→c<hi→Q c=false)→
   ∃s:Nat,loop F ((x:Int),(y:Int))=some (s:Int)∧lo≤s∧s≤hi∧(∀c,lo≤c→c<s→Q c=true)∧∀c,s≤c→c<hi→Q c=false:=by
    intro k
    induction k with
    |zero=>
     intro x y hk h1 h2 h3 h4 h5
     obtain rfl:x=y:=by omega
     exact ⟨x,C6 (hstop x x (by omega)),h1,h3,h4,h5⟩
    |succ k ih=>
     intro x y hk h1 h2 h3 h4 h5
     by_cases hxy:x<y
     ·have hf:=hF x y h1 hxy h3
      cases hq:Q ((x+y) / 2)with
      |true=>
       rw [hq,bQ rfl]at hf
       obtain ⟨s,g1,g2⟩:=ih ((x+y) / 2+1) y (by omega) (by omega) (by omega) h3 (fun c hc1 hc2=>mono c ((x+y) / 2) hc1 (by omega) (by omega) hq) h5
       exact ⟨s,by rw [J2 hf];exact g1,g2⟩
      |false=>
       rw [hq,bR (by simp)]at hf
       obtain ⟨s,g1,g2⟩:=ih x ((x+y) / 2) (by omega) h1 (by omega) (by omega) h4 (fun c hc1 hc2=>by
         cases hc:Q c with
         |false=>rfl
         |true=>rw [mono ((x+y) / 2) c (by omega) hc1 hc2 hc]at hq;cases hq)
       exact ⟨s,by rw [J2 hf];exact g1,g2⟩
     ·obtain rfl:x=y:=by omega
      exact ⟨x,C6 (hstop x x (by omega)),h1,h3,h4,h5⟩
  exact key (hi - lo) lo hi (wH _) (wH _) hle (wH _) (fun c h1 h2=>absurd h2 (by omega)) (fun c h1 h2=>absurd h2 (by omega))
/-- The inner loop: an element goes down to its place. -/
theorem GD (L:LtOK lt){F:Int×List α→Option (Stp (Int×List α) (List α))}{P T:List α}(N:Nat)
    (hstop: ∀xs,F ((P.length:Int),xs)=some (.out xs))
    (hF: ∀(U V:List α) (q x:α),P.length≤U.length→(U++q::x::V).length=N→F (((U.length:Int)+1),U++q::x::V)=some (if lt x q then .go ((U.length:Int),U++x::q::V)else .out (U++q::x::V))) (x:α):
    ∀(n:Nat) (Q1 Q2:List α),Q1.length=n→Srt lt (Q1++Q2)→(∀q∈Q2,lt x q=true)→(P++Q1++x::Q2++T).length=N→
     ∃Q,loop F (((P.length+Q1.length:Nat):Int),P++Q1++x::Q2++T)=some (P++Q++T)∧Q.Perm (x::(Q1++Q2))∧Srt lt Q:=by
  intro n
  induction n with
  |zero=>
   intro Q1 Q2 hn hs hg hN
   obtain rfl:=List.length_eq_zero_iff.1 hn
   refine ⟨x::Q2,?_,by simp,?_⟩
   ·rw [C6 (by rw [lN,Nat.add_zero];exact hstop _)]
    simp
   ·exact hs.ins L (by simp) hg
  |succ n ih=>
   intro Q1 Q2 hn hs hg hN
   obtain ⟨Q',q,rfl⟩:=WH (Q:=Q1) (by rintro rfl;simp at hn)
   rw [lM,List.length_singleton]at hn
   have e1:P++ (Q'++ [q])++x::Q2++T=(P++Q')++q::x::(Q2++T):=by simp
   have e2:((P.length+ (Q'++ [q]).length:Nat):Int)=((P++Q').length:Int)+1:=by simp;omega
   have hF1:=hF (P++Q') (Q2++T) q x (by simp) (by rw [← e1];exact hN)
   by_cases hl:lt x q=true
   ·rw [bQ hl]at hF1
    obtain ⟨Q,g1,g2,g3⟩:=ih Q' (q::Q2) (by omega) (by simpa using hs) (fun y hy=>by
      rcases lU.1 hy with rfl|hy
      ·exact hl
      ·exact hg y hy) (by rw [← hN];simp)
    refine ⟨Q,?_,g2.trans (by simp),g3⟩
    rw [e1,e2,J2 hF1,← g1]
    congr 1
    simp
   ·rw [bR hl]at hF1
    have hl':lt x q=false:=by simpa using hl
    refine ⟨Q'++ [q]++x::Q2,?_,?_,hs.ins L (fun y hy=> ?_) hg⟩
    ·rw [e1,e2,C6 hF1];simp
    ·have:=List.perm_middle (a:=x) (l₁:=Q'++ [q]) (l₂:=Q2);exact this
    ·rcases lT.1 hy with h|h
     ·have hq:lt q y=false:=by
        unfold Srt at hs
        rw [lO,bC]at hs
        exact hs.2.2 y h q (by simp)
      exact L.trans y q x hq hl'
     ·rw [bI.1 h];exact hl'
/-- The outer loop. -/
theorem NX {F:Int×List α→Option (Stp (Int×List α) (List α))}{P S:List α}(N:Nat)(b:Nat)
    (hend: ∀xs (i:Nat),b≤i→F ((i:Int),xs)=some (.out xs))
    (hF: ∀(Q R:List α) (x:α),(P++Q++x::R++S).length=N→P.length+Q.length<b→Srt lt Q→∃Q',F (((P.length+Q.length:Nat):Int),P++Q++x::R++S)=some (.go (((P.length+Q.length+1:Nat):Int),P++Q'++R++S))∧Q'.Perm (x::Q)∧Srt lt Q'):
    ∀(R Q:List α),(P++Q++R++S).length=N→P.length+Q.length+R.length=b→Srt lt Q→∃Q',loop F (((P.length+Q.length:Nat):Int),P++Q++R++S)=some (P++Q'++S)∧Q'.Perm (Q++R)∧Srt lt Q':=by
  intro R
  induction R with
  |nil=>
   intro Q hN hb hs
   refine ⟨Q,?_,by simp,hs⟩
   rw [C6 (hend _ _ (by simpa using Nat.le_of_eq hb.symm))]
   simp
  |cons x R ih=>
   intro Q hN hb hs
   rw [lL]at hb
   obtain ⟨Q',g1,g2,g3⟩:=hF Q R x hN (by omega) hs
   have hl:Q'.length=Q.length+1:=by rw [g2.length_eq];simp
   obtain ⟨Q2,k1,k2,k3⟩:=ih Q' (by rw [← hN];simp [hl];omega) (by omega) g3
   refine ⟨Q2,?_,k2.trans ((g2.append_right R).trans ?_),k3⟩
   ·rw [J2 g1,← k1,hl]
    congr 1
   ·exact (List.perm_middle (a:=x) (l₁:=Q) (l₂:=R)).symm
end
end Go.Abs
/-! How the lists are sorted. -/
namespace Go.Abs.World
open Go Go.Abs
def YB (a b:Int):Bool:=decide (a<b)
theorem oC:LtOK YB:=⟨fun a b h=>by simp only [YB,bM,wC]at h ⊢;omega,fun a b c h1 h2=>by simp only [YB,wC]at h1 h2 ⊢;omega⟩
theorem kF (a b:Int):Ka a b=some (YB a b):=by
  have h: ∀x:Int,W6 x=some false:=fun x=>by unfold W6;simp
  unfold Ka
  rw [h,lB]
  rfl
theorem aC {α:Type}(U V:List α)(q x:α):U++q::x::V=(U++ [q])++x::V:=by simp
theorem WI (P T:List Int)(x:Int)(Q:List Int)(hs:Srt YB Q)(hN:(P++Q++x::T).length≤1000000):
    ∃Q',loop (J5 (P.length:Int)) (((P.length+Q.length:Nat):Int),P++Q++x::T)=some (P++Q'++T)∧Q'.Perm (x::Q)∧Srt YB Q':=by
  have hstop: ∀xs,J5 (P.length:Int) ((P.length:Int),xs)=some (.out xs):=fun xs=>by
    unfold J5
    simp only [show decide ((P.length:Int)>(P.length:Int))=false from bK (by omega),bP,bT,lB]
  have hF: ∀(U V:List Int) (q y:Int),P.length≤U.length→(U++q::y::V).length=(P++Q++x::T).length→J5 (P.length:Int) (((U.length:Int)+1),U++q::y::V)=some (if YB y q then .go ((U.length:Int),U++y::q::V)else .out (U++q::y::V)):=fun U V q y hP hl=>by
    unfold J5
    have hb:U.length+2≤1000000:=by rw [← hl]at hN;simp at hN;omega
    have e1:D6 ((U.length:Int)+1 - 1)=(U.length:Int):=by rw [F5 (by omega)];omega
    have g1:C0 (U++q::y::V) ((U.length:Int)+1)=some y:=by rw [aC];exact Lw _ _ _ _ (by simp)
    have g2:C0 (U++q::y::V) (U.length:Int)=some q:=Lw _ _ _ _ rfl
    have s1:Ln (U++q::y::V) ((U.length:Int)+1) q=U++q::q::V:=by rw [aC,Uz _ _ _ _ _ (by simp)];simp
    have g3:C0 (U++q::q::V) (U.length:Int)=some q:=Lw _ _ _ _ rfl
    have s2:Ln (U++q::q::V) (U.length:Int) y=U++y::q::V:=Uz _ _ _ _ _ rfl
    simp only [show decide (((U.length:Int)+1)>(P.length:Int))=true from bJ (by omega),bO,bS,e1,g1,g2,s1,g3,s2,lB,kF]
    cases YB y q<;>rfl
  obtain ⟨Q',h1,h2,h3⟩:=GD oC (P:=P) (T:=T) (P++Q++x::T).length hstop hF x Q.length Q [] rfl (by simpa using hs) (by simp) (by simp)
  refine ⟨Q',?_,by simpa using h2,h3⟩
  rw [← h1];congr 1;simp
theorem kG (P A S:List Int)(hN:(P++A++S).length≤1000000):
    ∃A',J3 (P++A++S) (P.length:Int) ((P.length+A.length:Nat):Int)=some (P++A'++S)∧A'.Perm A∧Srt YB A':=by
  unfold J3
  have hend: ∀(xs:List Int) (i:Nat),P.length+A.length≤i→G6 (P.length:Int) ((P.length+A.length:Nat):Int) ((i:Int),xs)=some (.out xs):=fun xs i hi=>by
    unfold G6
    rw [show decide ((i:Int)< ((P.length+A.length:Nat):Int))=false from bK (by omega)];rfl
  simp only [lM]at hN
  have hw:D6 ((P.length:Int)+1)=((P.length+1:Nat):Int):=by rw [F5 (by omega)];omega
  cases A with
  |nil=>
   refine ⟨[],?_,by simp,List.Pairwise.nil⟩
   rw [hw,C6 (hend _ _ (by simp))]
  |cons a A=>
   have hF: ∀(Q R:List Int) (x:Int),(P++Q++x::R++S).length=(P++a::A++S).length→P.length+Q.length<P.length+ (a::A).length→Srt YB Q→∃Q',G6 (P.length:Int) ((P.length+ (a::A).length:Nat):Int) (((P.length+Q.length:Nat):Int),P++Q++x::R++S)=some (.go (((P.length+Q.length+1:Nat):Int),P++Q'++R++S))∧Q'.Perm (x::Q)∧Srt YB Q':=fun Q R x hl hb hs=>by
     obtain ⟨Q',k1,k2,k3⟩:=WI P (R++S) x Q hs (by simp only [lM,lL]at hl hN ⊢;omega)
     refine ⟨Q',?_,k2,k3⟩
     unfold G6
     have e1:P++Q++x::R++S=P++Q++x::(R++S):=by simp
     rw [show decide (((P.length+Q.length:Nat):Int)< ((P.length+ (a::A).length:Nat):Int))=true from bJ (by omega),bO]
     simp only [e1,k1,lB]
     rw [F5 (by simp only [lL]at hN hb;omega)]
     simp
   obtain ⟨A',h1,h2,h3⟩:=NX (lt:=YB) (P:=P) (S:=S) (P++a::A++S).length (P.length+ (a::A).length) hend hF A [a] (by simp) (by simp;omega) (List.pairwise_singleton _ _)
   refine ⟨A',?_,h2,h3⟩
   rw [hw,← h1];congr 1;simp
theorem YC (n:Nat)(h:n≤12): ∃v,Jk (IntKind.wrap .u64 (n:Int))=some v:=by
  have: ∀n:Fin 13,(Jk (IntKind.wrap .u64 ((n.val:Nat):Int))).isSome=true:=by decide+kernel
  exact Option.isSome_iff_exists.1 (this ⟨n,by omega⟩)
theorem kH (xs:List Int)(h:xs.length≤12): ∃ys,O5 xs=some ys∧ys.Perm xs∧Srt YB ys:=by
  obtain ⟨v,hv⟩:=YC _ h
  obtain ⟨ys,h1,h2,h3⟩:=kG [] xs [] (by simp;omega)
  refine ⟨ys,?_,h2,h3⟩
  unfold O5 O0
  rw [hv,lB,C6 (t:=ys)]
  ·rfl
  ·unfold N0
   simp only [lN,wK,lQ,lP]at h1
   have e:D6 ((xs.length:Int) - 0)≤12:=by rw [F5 (by omega)];omega
   rw [show decide (D6 ((xs.length:Int) - 0)≤12)=true from bJ e,bO]
   have h1':J3 xs 0 (xs.length:Int)=some ys:=h1
   rw [h1',lB]
theorem gE:O6=some ():=by
  obtain ⟨v,hv⟩:=YC 0 (by omega)
  unfold O6 O1
  rw [show IntKind.wrap .u64 0=IntKind.wrap .u64 ((0:Nat):Int) from rfl,hv,lB,C6 (t:=())]
  ·rfl
  ·unfold N1 L9
   rw [C6 (t:=())]
   ·rfl
   ·rfl
theorem CT: ∀(l:List Int) (x:Int),x∈Eo l↔x∈l
  | [],_=> .rfl
  | [_],_=> .rfl
  |a::b::r,x=>by
   have ih:=CT (b::r) x
   rw [Eo]
   by_cases e:a=b
   ·subst e
    rw [show (a==a)=true by simp,bO,ih]
    simp
   ·rw [show (a==b)=false by simp [e],bP,lU,ih,lU (a:=x) (b:=a)]
theorem BL: ∀(l:List Int),l.Pairwise (· ≤ ·)→(Eo l).Pairwise (· < ·)
  | [],_=>List.Pairwise.nil
  | [_],_=>List.pairwise_singleton _ _
  |a::b::r,h=>by
   obtain ⟨h1,h2⟩:=bB.1 h
   have ih:=BL (b::r) h2
   rw [Eo]
   by_cases e:a=b
   ·rw [show (a==b)=true by simp [e],bO];exact ih
   ·rw [show (a==b)=false by simp [e],bP]
    refine bB.2 ⟨fun x hx=> ?_,ih⟩
    have hx':=(CT _ _).1 hx
    have hb:=h1 b (by simp)
    rcases lU.1 hx' with rfl|hx'
    ·omega
    ·have:=(bB.1 h2).1 x hx';omega
theorem LC: ∀{l m:List Int},l.Pairwise (· < ·)→m.Pairwise (· < ·)→(∀x,x∈l↔x∈m)→l=m
  | [],[],_,_,_=>rfl
  | [],b::m,_,_,h=>absurd ((h b).2 (by simp)) (by simp)
  |a::l,[],_,_,h=>absurd ((h a).1 (by simp)) (by simp)
  |a::l,b::m,h1,h2,h=>by
   obtain ⟨a1,a2⟩:=bB.1 h1
   obtain ⟨b1,b2⟩:=bB.1 h2
   have hab:a=b:=by
     rcases lU.1 ((h a).1 (by simp))with e|e
     ·exact e
     ·rcases lU.1 ((h b).2 (by simp))with e'|e'
      ·exact e'.symm
      ·have:=a1 _ e';have:=b1 _ e;omega
   subst hab
   congr 1
   refine LC a2 b2 fun x=>⟨fun hx=> ?_,fun hx=> ?_⟩
   ·rcases lU.1 ((h x).1 (List.mem_cons_of_mem _ hx))with rfl|e
    ·exact absurd (a1 _ hx) (by omega)
    ·exact e
   ·rcases lU.1 ((h x).2 (List.mem_cons_of_mem _ hx))with rfl|e
    ·exact absurd (b1 _ hx) (by omega)
    ·exact e
structure SigOK (s:Signal):Prop where
  pos:0<s.Phases.length
  many:s.Phases.length≤6
  off:0≤s.Offset∧s.Offset≤1099511627776
  ticks: ∀p∈s.Phases,1≤p.Ticks∧p.Ticks≤10000
  green: ∀p∈s.Phases,p.Green.length≤1000000
theorem ValR.sig {m:Map}(B:BearM m)(V:ValR m){i:Nat}{s:Signal}(h:m.Signals[i]? =some s):SigOK s:=by
  have:=firstE_none.1 V.signalE i s h
  unfold World.signalE at this
  split at this
  ·cases this
  split at this
  ·cases this
  split at this
  ·cases this
  split at this
  ·cases this
  rename_i h1 h2 h3 h4
  refine ⟨by omega,by omega,?_,fun p hp=> ?_,(B.toBearS.phases s (lG h)).2⟩
  ·have:Vg s.Offset 0 1099511627776=true:=by simpa using h3
   simpa [Vg] using this
  ·have:Vg p.Ticks 1 10000=true:=by
     cases q:Vg p.Ticks 1 10000 with
     |true=>rfl
     |false=>exact absurd (lZ.2 ⟨p,hp,by rw [q];rfl⟩) h4
   simpa [Vg] using this
def Og:List Phase→Int
  | []=>0
  |p::r=>p.Ticks+Og r
def HH (lane:Int):Int→List Phase→Bool
  |_,[]=>false
  |at_,p::r=>if p.Ticks≤at_ then HH lane (at_ - p.Ticks) r else p.Green.contains lane
def Wg (s:Signal)(lane tick:Int):Bool:=HH lane ((s.Offset+tick) % Og s.Phases) s.Phases
theorem YD: ∀{l:List Phase},(∀p∈l,1≤p.Ticks∧p.Ticks≤10000)→(l.length:Int)≤Og l∧Og l≤10000*l.length
  | [],_=>by simp [Og]
  |p::r,h=>by
   have:=YD (l:=r) fun q hq=>h q (List.mem_cons_of_mem _ hq)
   have:=h p (by simp)
   simp only [Og,lL]
   omega
theorem SigOK.sum {s:Signal}(S:SigOK s):1≤Og s.Phases∧Og s.Phases≤60000:=by
  have:=YD S.ticks
  have:=S.pos
  have:=S.many
  omega
theorem qR (s:Signal)(S:SigOK s): ∀(r:List Phase) (i:Nat) (a:Int),s.Phases.drop i=r→i≤s.Phases.length→0≤a→a+10000*r.length≤1000000→loop (Bz s) (a,(i:Int))=some (a+Og r):=by
  intro r
  induction r with
  |nil=>
   intro i a hi hil h0 h1
   have:=N8 hi
   obtain rfl:i=s.Phases.length:=by omega
   refine C6 ?_
   unfold Bz
   rw [I0];simp [Og]
  |cons p r ih=>
   intro i a hi hil h0 h1
   have hlt:=M9 hi
   have hp:=U6 hi
   have hb:=S.ticks p (lG hp)
   simp only [lL]at h1
   have hs:Bz s (a,(i:Int))=some (.go (a+p.Ticks,((i+1:Nat):Int))):=by
     unfold Bz
     dsimp only
     rw [J6 hlt,C3 hp,bO,lB,F5 (by omega),G7 hlt (by have:=S.many;omega)]
   rw [J2 hs,ih (i+1) _ (K5 hi) (by omega) (by omega) (by omega),Og]
   congr 1;omega
theorem qS (s:Signal)(S:SigOK s)(lane:Int): ∀(r:List Phase) (i:Nat) (a:Int),s.Phases.drop i=r→i≤s.Phases.length→0≤a→a≤1000000→thenS (loop (U4 s lane) (a,(i:Int))) (fun _=>some false) (fun r=>some r)=some (HH lane a r):=by
  intro r
  induction r with
  |nil=>
   intro i a hi hil h0 h1
   have:=N8 hi
   obtain rfl:i=s.Phases.length:=by omega
   rw [C6 (t:= .inl ())]
   ·rfl
   ·unfold U4
    rw [I0];rfl
  |cons p r ih=>
   intro i a hi hil h0 h1
   have hlt:=M9 hi
   have hp:=U6 hi
   have hb:=S.ticks p (lG hp)
   by_cases hc:p.Ticks≤a
   ·have hs:U4 s lane (a,(i:Int))=some (.go (a - p.Ticks,((i+1:Nat):Int))):=by
      unfold U4
      dsimp only
      rw [J6 hlt,C3 hp,bO,lB,show decide (a≥p.Ticks)=true from bJ hc,bO,F5 (by omega),G7 hlt (by have:=S.many;omega)]
    rw [J2 hs,ih (i+1) _ (K5 hi) (by omega) (by omega) (by omega),HH,bQ hc]
   ·have hs:U4 s lane (a,(i:Int))=some (.out (.inr (p.Green.contains lane))):=by
      unfold U4
      dsimp only
      rw [J6 hlt,C3 hp,bO,lB,show decide (a≥p.Ticks)=false from bK (by omega),bP,Zg _ (S.green p (lG hp)),lB]
    rw [C6 hs,HH,bR hc];rfl
theorem mS {s:Signal}(S:SigOK s){tick:Int}(h:0≤tick):(D6 (s.Offset.tmod (Og s.Phases)+tick.tmod (Og s.Phases))).tmod (Og s.Phases)=(s.Offset+tick) % Og s.Phases:=by
  obtain ⟨h1,h2⟩:=S.sum
  have ho:=S.off.1
  rw [wQ ho,wQ h]
  have a1:=wR s.Offset (b:=Og s.Phases) (by omega)
  have a2:=wR tick (b:=Og s.Phases) (by omega)
  have a3:=wS s.Offset (b:=Og s.Phases) (by omega)
  have a4:=wS tick (b:=Og s.Phases) (by omega)
  rw [F5 (by omega),wQ (by omega),← Int.add_emod]
theorem NY {s:Signal}(S:SigOK s)(lane:Int){tick:Int}(h:0≤tick):Fg s lane tick=some (Wg s lane tick):=by
  obtain ⟨h1,h2⟩:=S.sum
  unfold Fg
  have e1:loop (Bz s) (0,0)=some (Og s.Phases):=by
    have:=qR s S s.Phases 0 0 rfl (by omega) (by omega) (by have:=S.many;omega)
    rw [Int.zero_add]at this;exact this
  have hne:Og s.Phases≠0:=by omega
  rw [e1,lB]
  unfold Vl
  rw [bR hne,lB,bR hne,lB,bR hne,lB,mS S h]
  refine qS s S lane s.Phases 0 _ rfl (by omega) (wR _ hne) ?_
  have:=wS (s.Offset+tick) (b:=Og s.Phases) (by omega)
  omega
noncomputable def GF (m:Map)(g lane tick:Int):Bool:=(((decide (tick≥0))&& (decide (g≥0)))&& (decide (g< (m.Signals.length:Int))))&&QO m lane&&Wg (m.Signals.getD g.toNat default) lane tick
theorem gF {m:Map}(B:BearM m)(g lane tick:Int):Hy m g lane tick=some (GF m g lane tick):=by
  unfold Hy GF
  rw [Zf B]
  cases hc:(((decide (tick≥0))&& (decide (g≥0)))&& (decide (g< (m.Signals.length:Int))))
  ·rfl
  ·cases hi:QO m lane
   ·rfl
   ·simp only [bU,bM]at hc
    obtain ⟨⟨c1,c2⟩,c3⟩:=hc
    have hl:g.toNat<m.Signals.length:=by omega
    have hget:m.Signals[g.toNat]? =some (m.Signals.getD g.toNat default):=by rw [List.getD,lH hl];rfl
    have hg:C0 m.Signals g=some (m.Signals.getD g.toNat default):=by unfold C0;rw [bQ c2,hget]
    have S:=((isM_true.1 hi).2.2).sig B hget
    simp only [bO,lB,bS,hg,NY S lane c1]
theorem Mp {high:Int}: ∀{l:List Int} {low:Int},Ck high low l=true→l.Pairwise (· < ·)
  | [],_,_=>List.Pairwise.nil
  |n::r,low,h=>by
   simp only [Ck,bU]at h
   refine bB.2 ⟨fun x hx=> ?_,Mp h.2⟩
   have:=(Lc h.2 x hx).1
   omega
def Xa (m:Map)(z:Zone):Signal:=m.Signals.getD (z.Signal_ - 1).toNat default
def Kn (m:Map)(lane tick:Int)(z:Zone)(p:Part):Option Int:=if p.Lane_==lane&& !Wg (Xa m z) lane tick then some p.From else none
def Cn (m:Map)(lane tick:Int)(z:Zone):List Int:=if z.Signal_==0 then []else z.Parts.filterMap (Kn m lane tick z)
def LD (m:Map)(lane tick:Int):List Int:=m.Zones.flatMap (Cn m lane tick)
theorem TD (m:Map)(lane tick:Int)(z:Zone): ∀l:List Part,(l.map (·.Lane_)).Pairwise (· < ·)→(l.filterMap (Kn m lane tick z)).length≤1
  | [],_=>by simp
  |p::r,h=>by
   obtain ⟨h1,h2⟩:=bB.1 h
   rw [List.filterMap_cons]
   by_cases e:p.Lane_=lane
   ·have:r.filterMap (Kn m lane tick z)= []:=by
      rw [List.filterMap_eq_nil_iff]
      intro q hq
      have:p.Lane_<q.Lane_:=h1 q.Lane_ (List.mem_map_of_mem hq)
      unfold Kn
      rw [show (q.Lane_==lane)=false by simp;omega];rfl
    rw [this]
    cases Kn m lane tick z p<;>simp
   ·have:Kn m lane tick z p=none:=by unfold Kn;rw [show (p.Lane_==lane)=false by simp [e]];rfl
    rw [this]
    exact TD m lane tick z r h2
theorem BM {m:Map}{z:Zone}(Z:ZoneOK m z)(lane tick:Int):(Cn m lane tick z).length≤1:=by
  unfold Cn
  split
  ·simp
  ·exact TD m lane tick z _ (Mp Z.rise)
theorem TE {m:Map}(lane tick:Int): ∀l:List Zone,(∀z∈l,ZoneOK m z)→(l.flatMap (Cn m lane tick)).length≤l.length
  | [],_=>by simp
  |z::r,h=>by
   rw [bF,lM,lL]
   have:=BM (h z (by simp)) lane tick
   have:=TE lane tick r fun y hy=>h y (List.mem_cons_of_mem _ hy)
   omega
theorem oF {m:Map}(B:BearM m)(V:ValR m)(lane:Int){tick:Int}(ht:0≤tick)(z:Zone)(Z:ZoneOK m z)(hz:z.Signal_≠0): ∀(r:List Part) (i:Nat) (out:List Int),z.Parts.drop i=r→i≤z.Parts.length→out.length+r.length≤1000→
    loop (Ae m lane tick z) (out,(i:Int))=some (out++r.filterMap (Kn m lane tick z)):=by
  intro r
  induction r with
  |nil=>
   intro i out hi hil hl
   have:=N8 hi
   obtain rfl:i=z.Parts.length:=by omega
   refine C6 ?_
   unfold Ae
   rw [I0];simp
  |cons p r ih=>
   intro i out hi hil hl
   have hlt:=M9 hi
   have hp:=U6 hi
   have hsz:=Z.six
   simp only [lL]at hl
   have hw:D6 (z.Signal_ - 1)=z.Signal_ - 1:=F5 (by have:=Z.sig;have:=V.signals;omega)
   have hk:(z.Signal_ - 1).toNat<m.Signals.length:=by have:=Z.sig;omega
   have hget:m.Signals[(z.Signal_ - 1).toNat]? =some (Xa m z):=by rw [Xa,List.getD,lH hk];rfl
   have hg:C0 m.Signals (z.Signal_ - 1)=some (Xa m z):=by unfold C0;rw [bQ (by have:=Z.sig;omega),hget]
   have hs:Ae m lane tick z (out,(i:Int))=some (.go ((match Kn m lane tick z p with|some b=>out++ [b]|none=>out),((i+1:Nat):Int))):=by
     unfold Ae Kn
     dsimp only
     rw [J6 hlt,C3 hp,bO,lB,hw,hg,G7 hlt (by omega)]
     cases p.Lane_==lane
     ·rfl
     ·simp only [bO,lB,bS]
      rw [NY (V.sig B hget) lane ht,lB]
      cases Wg (Xa m z) lane tick
      ·simp only [bX,bO,if_true]
       rw [Ey (by simp;omega),lB]
      ·rfl
   rw [J2 hs,List.filterMap_cons]
   cases Kn m lane tick z p with
   |none=>exact ih (i+1) out (K5 hi) (by omega) (by omega)
   |some b=>
    dsimp only
    rw [ih (i+1) (out++ [b]) (K5 hi) (by omega) (by simp;omega)]
    simp
theorem oG {m:Map}(B:BearM m)(V:ValR m)(lane:Int){tick:Int}(ht:0≤tick): ∀(r:List Zone) (i:Nat) (out:List Int),m.Zones.drop i=r→i≤m.Zones.length→out.length+r.length≤100→
    loop (Af m lane tick) (out,(i:Int))=some (out++r.flatMap (Cn m lane tick)):=by
  intro r
  induction r with
  |nil=>
   intro i out hi hil hl
   have:=N8 hi
   obtain rfl:i=m.Zones.length:=by omega
   refine C6 ?_
   unfold Af
   rw [I0];simp
  |cons z r ih=>
   intro i out hi hil hl
   have hlt:=M9 hi
   have hz:=U6 hi
   have Z:=V.zoneOK (lG hz)
   simp only [lL]at hl
   have hn:=V.zones
   have hs:Af m lane tick (out,(i:Int))=some (.go (out++Cn m lane tick z,((i+1:Nat):Int))):=by
     unfold Af Cn
     dsimp only
     rw [J6 hlt,C3 hz,bO,lB,G7 hlt (by omega)]
     by_cases e:z.Signal_=0
     ·rw [show (z.Signal_==0)=true by simp [e],bO,bQ rfl];simp
     ·rw [show (z.Signal_==0)=false by simp [e],bP,bR (by simp)]
      have:=oF B V lane ht z Z e z.Parts 0 out rfl (by omega) (by have:=Z.six;omega)
      have this':loop (Ae m lane tick z) (out,0)=_:=this
      rw [this',lB]
   have:=BM Z lane tick
   rw [J2 hs,ih (i+1) _ (K5 hi) (by omega) (by rw [lM];omega),bF,lO]
/-- The red lines: strictly ascending, and those that there are. -/
theorem kI {m:Map}(B:BearM m)(V:ValR m)(lane:Int){tick:Int}(ht:0≤tick): ∃R,Mw m lane tick=some R∧R.Pairwise (· < ·)∧(∀x,x∈R↔x∈LD m lane tick)∧R.length≤1000:=by
  have hlen:(LD m lane tick).length≤12:=wL (TE lane tick m.Zones fun z hz=>V.zoneOK hz) V.zones
  have h1:loop (Af m lane tick) ([],0)=some (LD m lane tick):=by
    have:=oG B V lane ht m.Zones 0 [] rfl (by omega) (by simp;have:=V.zones;omega)
    rw [lQ]at this
    exact this
  unfold Mw
  rw [h1,lB]
  cases q:LD m lane tick with
  |nil=>exact ⟨[],by rw [gE];rfl,List.Pairwise.nil,fun x=> .rfl,by simp⟩
  |cons a l=>
   rw [q]at hlen
   obtain ⟨ys,g1,g2,g3⟩:=kH (a::l) hlen
   have hys:ys≠ []:=by rintro rfl;exact absurd g2.length_eq (by simp)
   have hc:ED ys=some (Eo ys):=by cases ys with|nil=>exact absurd rfl hys|cons=>rfl
   refine ⟨Eo ys,by rw [show List.isEmpty (a::l)=false from rfl,bP,g1,lB,hc];rfl,BL _ (g3.imp fun {a b} h=> ?_),fun x=>(CT _ _).trans g2.mem_iff,?_⟩
   ·simp only [YB,wC]at h;omega
   ·have: ∀l:List Int,(Eo l).length≤l.length:=by
      intro l
      induction l with
      |nil=>simp [Eo]
      |cons a l ih=>
       cases l with
       |nil=>simp [Eo]
       |cons b r=>
        rw [Eo]
        cases a==b
        ·simp only [bP,lL]at ih ⊢;omega
        ·simp only [bO,lL]at ih ⊢;omega
    have h2:=this ys
    rw [g2.length_eq]at h2
    omega
theorem oH {m:Map}(B:BearM m)(lane tick:Int): ∃R,Es m lane tick=some R∧R.Pairwise (· < ·)∧(∀x,x∈R↔ (0≤tick∧QO m lane=true∧x∈LD m lane tick))∧R.length≤1000:=by
  unfold Es
  rw [Zf B]
  by_cases ht:tick<0
  ·exact ⟨[],by rw [show decide (tick<0)=true from bJ ht];rfl,List.Pairwise.nil,fun x=>⟨fun h=>absurd h (by simp),fun h=>by omega⟩,by simp⟩
  ·rw [show decide (tick<0)=false from bK ht]
   cases hi:QO m lane
   ·exact ⟨[],rfl,List.Pairwise.nil,fun x=>⟨fun h=>absurd h (by simp),fun h=>by cases h.2.1⟩,by simp⟩
   ·obtain ⟨R,g1,g2,g3,g4⟩:=kI B (isM_true.1 hi).2.2 lane (tick:=tick) (by omega)
    exact ⟨R,by simp only [bX,bO,lB,bW,Bool.or_false,bP,g1],g2,fun x=>(g3 x).trans ⟨fun h=>⟨by omega,rfl,h⟩,fun h=>h.2.2⟩,g4⟩
end Go.Abs.World
namespace Go.Abs
open Go
section
variable {α β σ τ:Type}
/-- What rounds put one behind the other. -/
def Tq (g:Nat→α→List β):Nat→List α→List β
  |_,[]=> []
  |i,a::r=>g i a++Tq g (i+1) r
theorem NZ (g:Nat→α→List β)(C:Nat): ∀(l:List α) (i:Nat),(∀(j:Nat) a,l[j]? =some a→(g (i+j) a).length≤C)→(Tq g i l).length≤l.length*C
  | [],_,_=>by simp [Tq]
  |a::r,i,h=>by
   have h1:=h 0 a rfl
   have h2:=NZ g C r (i+1) (fun j b hb=>by have:=h (j+1) b (by simpa using hb);rwa [show i+1+j=i+ (j+1) by omega])
   rw [Tq,lM,lL,Nat.succ_mul]
   rw [Nat.add_zero]at h1
   omega
end
end Go.Abs
namespace Go.Abs.World
open Go Go.Abs
theorem TF {z:Zone}(hl:z.Parts.length≤1000000)(k:Int):Sj z k=some (Jr z k):=by
  have key: ∀(r:List Part) (i:Nat),z.Parts.drop i=r→i≤z.Parts.length→thenS (loop (Gi z k) (i:Int)) (fun _=>some ((⟨0,0,0,0⟩:Part),false)) (fun r=>some r)=some (match r.find? (fun p=>p.Lane_==k)with|some p=>(p,true)|none=>(⟨0,0,0,0⟩,false)):=by
    intro r
    induction r with
    |nil=>
     intro i hi hil
     have:=N8 hi
     obtain rfl:i=z.Parts.length:=by omega
     rw [C6 (t:= .inl ()) (by unfold Gi;rw [I0];rfl)];rfl
    |cons p r ih=>
     intro i hi hil
     have hlt:=M9 hi
     have hp:=U6 hi
     rw [List.find?_cons]
     cases q:p.Lane_==k
     ·rw [J2 (s':=((i+1:Nat):Int)) (by unfold Gi;rw [J6 hlt,C3 hp,bO,lB,q,G7 hlt (by omega)];rfl)]
      exact ih (i+1) (K5 hi) (by omega)
     ·rw [C6 (t:= .inr (p,true)) (by unfold Gi;rw [J6 hlt,C3 hp,bO,lB,q,bO,lB])];rfl
  exact key z.Parts 0 rfl (by omega)
theorem pT (s:Signal)(S:SigOK s): ∀(r:List Phase) (i:Nat) (a:Int),s.Phases.drop i=r→i≤s.Phases.length→0≤a→a+10000*r.length≤1000000→loop (Cb s) (a,(i:Int))=some (a+Og r):=by
  intro r
  induction r with
  |nil=>
   intro i a hi hil h0 h1
   have:=N8 hi
   obtain rfl:i=s.Phases.length:=by omega
   refine C6 ?_
   unfold Cb
   rw [I0];simp [Og]
  |cons p r ih=>
   intro i a hi hil h0 h1
   have hlt:=M9 hi
   have hp:=U6 hi
   have hb:=S.ticks p (lG hp)
   simp only [lL]at h1
   have hs:Cb s (a,(i:Int))=some (.go (a+p.Ticks,((i+1:Nat):Int))):=by
     unfold Cb
     dsimp only
     rw [J6 hlt,C3 hp,bO,lB,F5 (by omega),G7 hlt (by have:=S.many;omega)]
   rw [J2 hs,ih (i+1) _ (K5 hi) (by omega) (by omega) (by omega),Og]
   congr 1;omega
theorem pU (s:Signal)(S:SigOK s)(lane:Int): ∀(r:List Phase) (i:Nat) (a:Int),s.Phases.drop i=r→i≤s.Phases.length→0≤a→a≤1000000→thenS (loop (Aj s lane) (a,(i:Int))) (fun _=>some false) (fun r=>some r)=some (HH lane a r):=by
  intro r
  induction r with
  |nil=>
   intro i a hi hil h0 h1
   have:=N8 hi
   obtain rfl:i=s.Phases.length:=by omega
   rw [C6 (t:= .inl ())]
   ·rfl
   ·unfold Aj
    rw [I0];rfl
  |cons p r ih=>
   intro i a hi hil h0 h1
   have hlt:=M9 hi
   have hp:=U6 hi
   have hb:=S.ticks p (lG hp)
   by_cases hc:p.Ticks≤a
   ·have hs:Aj s lane (a,(i:Int))=some (.go (a - p.Ticks,((i+1:Nat):Int))):=by
      unfold Aj
      dsimp only
      rw [J6 hlt,C3 hp,bO,lB,show decide (a<p.Ticks)=false from bK (by omega),bP,lB,F5 (by omega),G7 hlt (by have:=S.many;omega)]
    rw [J2 hs,ih (i+1) _ (K5 hi) (by omega) (by omega) (by omega),HH,bQ hc]
   ·have hs:Aj s lane (a,(i:Int))=some (.out (.inr (p.Green.contains lane))):=by
      unfold Aj
      dsimp only
      rw [J6 hlt,C3 hp,bO,lB,show decide (a<p.Ticks)=true from bJ (by omega),bO,lB,WB _ (S.green p (lG hp)),lB]
    rw [C6 hs,HH,bR hc];rfl
theorem OA {s:Signal}(S:SigOK s)(lane:Int){tick:Int}(h:0≤tick):Na s lane tick=some (Wg s lane tick):=by
  obtain ⟨h1,h2⟩:=S.sum
  unfold Na
  have e1:loop (Cb s) (0,0)=some (Og s.Phases):=by
    have:=pT s S s.Phases 0 0 rfl (by omega) (by omega) (by have:=S.many;omega)
    rw [Int.zero_add]at this;exact this
  have hne:Og s.Phases≠0:=by omega
  rw [e1,lB]
  unfold Vl
  rw [bR hne,lB,bR hne,lB,bR hne,lB,mS S h]
  refine pU s S lane s.Phases 0 _ rfl (by omega) (wR _ hne) ?_
  have:=wS (s.Offset+tick) (b:=Og s.Phases) (by omega)
  omega
theorem aD {m:Map}(B:BearM m)(g lane tick:Int):Py m g lane tick=some (GF m g lane tick):=by
  unfold Py GF
  rw [Uf B,lB]
  have e:(((QO m lane&& (decide (g≥0)))&& (decide (g< (m.Signals.length:Int))))&& (decide (tick≥0)))=((((decide (tick≥0))&& (decide (g≥0)))&& (decide (g< (m.Signals.length:Int))))&&QO m lane):=by
    cases QO m lane<;>cases decide (g≥0)<;>cases decide (g< (m.Signals.length:Int))<;>cases decide (tick≥0)<;>rfl
  rw [e]
  cases hc:((((decide (tick≥0))&& (decide (g≥0)))&& (decide (g< (m.Signals.length:Int))))&&QO m lane)
  ·rfl
  ·simp only [bU,bM]at hc
   obtain ⟨⟨⟨c1,c2⟩,c3⟩,c4⟩:=hc
   have hl:g.toNat<m.Signals.length:=by omega
   have hget:m.Signals[g.toNat]? =some (m.Signals.getD g.toNat default):=by rw [List.getD,lH hl];rfl
   have hg:C0 m.Signals g=some (m.Signals.getD g.toNat default):=by unfold C0;rw [bQ c2,hget]
   have S:=((isM_true.1 c4).2.2).sig B hget
   simp only [bO,lB,bS,hg,OA S lane c1]
theorem OB (m:Map)(lane tick:Int)(z:Zone): ∀l:List Part,(l.map (·.Lane_)).Pairwise (· < ·)→l.filterMap (Kn m lane tick z)=match l.find? (fun p=>p.Lane_==lane)with|some p=>if Wg (Xa m z) lane tick=true then []else [p.From]|none=> []
  | [],_=>rfl
  |p::r,h=>by
   obtain ⟨h1,h2⟩:=bB.1 h
   rw [List.filterMap_cons,List.find?_cons]
   by_cases e:p.Lane_=lane
   ·have:r.filterMap (Kn m lane tick z)= []:=by
      rw [List.filterMap_eq_nil_iff]
      intro q hq
      have:p.Lane_<q.Lane_:=h1 q.Lane_ (List.mem_map_of_mem hq)
      unfold Kn
      rw [show (q.Lane_==lane)=false by simp;omega];rfl
    rw [this,show (p.Lane_==lane)=true by simp [e]]
    unfold Kn
    rw [show (p.Lane_==lane)=true by simp [e]]
    cases Wg (Xa m z) lane tick<;>rfl
   ·have:Kn m lane tick z p=none:=by unfold Kn;rw [show (p.Lane_==lane)=false by simp [e]];rfl
    rw [this,show (p.Lane_==lane)=false by simp [e]]
    exact OB m lane tick z r h2
theorem kJ (out:List Int)(q:Part×Bool)(i0:Int)(hl:out.length≤1000): ∀(r:List Int) (i:Nat),out.drop i=r→i≤out.length→loop (Hj (out,i0) q) (i:Int)=some ((i+ (r.takeWhile fun y=>decide (y<q.1.From)).length:Nat):Int):=by
  intro r
  induction r with
  |nil=>
   intro i hi hil
   have:=N8 hi
   obtain rfl:i=out.length:=by omega
   refine C6 ?_
   unfold Hj
   dsimp only
   rw [I0];rfl
  |cons y r ih=>
   intro i hi hil
   have hlt:=M9 hi
   have hy:=U6 hi
   rw [List.takeWhile_cons]
   by_cases hc:y<q.1.From
   ·rw [bQ (by simpa using hc),lL,J2 (s':=((i+1:Nat):Int)),ih (i+1) (K5 hi) (by omega)]
    ·congr 2;omega
    ·unfold Hj
     dsimp only
     rw [J6 hlt,C3 hy,bO,lB,show decide (y<q.1.From)=true from bJ hc,Bool.and_true,bO,G7 hlt (by omega)]
   ·rw [bR (by simpa using hc)]
    refine C6 ?_
    unfold Hj
    dsimp only
    rw [J6 hlt,C3 hy,bO,lB,show decide (y<q.1.From)=false from bK hc];rfl
theorem aE {α:Type}(L R:List α):AG (L++R) 0 (L.length:Int)=some L:=by
  unfold AG
  rw [bQ ⟨by omega,by omega,by simp;omega⟩]
  simp
theorem WJ {α:Type}(L R:List α):AG (L++R) (L.length:Int) ((L++R).length:Int)=some R:=by
  unfold AG
  rw [bQ ⟨by omega,by simp;omega,by omega⟩,show (((L++R).length:Int)).toNat=(L++R).length from wF _,List.take_length,show ((L.length:Int)).toNat=L.length from wF _,List.drop_left]
theorem gG {α:Type}{p:α→Bool}: ∀{l:List α} {x:α},x∈l.takeWhile p→p x=true
  | [],_,h=>by simp at h
  |a::r,x,h=>by
   rw [List.takeWhile_cons]at h
   split at h
   ·rename_i ha
    rcases lU.1 h with rfl|h
    ·exact ha
    ·exact gG h
   ·simp at h
/-- A number is put into a list that is strictly ascending. -/
theorem gH (out:List Int)(x:Int)(hs:out.Pairwise (· < ·))(hl:out.length≤500): ∃out':List Int,∀(i':Int),((cond (decide (((out.takeWhile fun y=>decide (y<x)).length:Int)< (out.length:Int))) (C0 out ((out.takeWhile fun y=>decide (y<x)).length:Int)) (some default)).bind fun v6=>cond ((decide (((out.takeWhile fun y=>decide (y<x)).length:Int)< (out.length:Int)))&& (v6==x)) (some (.go (out,i'):Stp (List Int×Int) (List Int))) ((AG out 0 ((out.takeWhile fun y=>decide (y<x)).length:Int)).bind fun v7=>(X3 ([]:List Int) v7).bind fun v8=>(X3 v8 [x]).bind fun v9=>(AG out ((out.takeWhile fun y=>decide (y<x)).length:Int) (out.length:Int)).bind fun v10=>(X3 v9 v10).bind fun v11=>some (.go (v11,i'))))=some (.go (out',i'))∧
    out'.Pairwise (· < ·)∧(∀y,y∈out'↔y=x∨y∈out)∧out'.length≤out.length+1:=by
  have e:=List.takeWhile_append_dropWhile (p:=fun y=>decide (y<x)) (l:=out)
  have hL: ∀y∈out.takeWhile (fun y=>decide (y<x)),y<x:=fun y hy=>by
    have:=gG hy
    simpa using this
  have hR0: ∀y R',out.dropWhile (fun y=>decide (y<x))=y::R'→x≤y:=fun y R' h=>by
    have:=List.head?_dropWhile_not (fun y=>decide (y<x)) out
    rw [h]at this
    simp at this;exact this
  generalize out.takeWhile (fun y=>decide (y<x))=L at*
  generalize out.dropWhile (fun y=>decide (y<x))=R at*
  subst e
  have hll:L.length+R.length≤500:=by simpa using hl
  have hgo: ∀i':Int,((AG (L++R) 0 (L.length:Int)).bind fun v7=>(X3 ([]:List Int) v7).bind fun v8=>(X3 v8 [x]).bind fun v9=>(AG (L++R) (L.length:Int) ((L++R).length:Int)).bind fun v10=>(X3 v9 v10).bind fun v11=>some (.go (v11,i'):Stp (List Int×Int) (List Int)))=some (.go (L++x::R,i')):=fun i'=>by
    rw [aE,lB,Ey (by simp;omega),lB,lQ,Ey (by simp;omega),lB,WJ,lB,Ey (by simp;omega),lB]
    simp
  obtain ⟨p1,p2,p3⟩:=bC.1 hs
  cases R with
  |nil=>
   refine ⟨L++ [x],fun i'=> ?_⟩
   have:=hgo i'
   refine ⟨?_,bC.2 ⟨p1,List.pairwise_singleton _ _,fun y hy z hz=>by rw [bI.1 hz];exact hL y hy⟩,fun y=>by simp [or_comm],by simp⟩
   rw [show decide ((L.length:Int)< ((L++ ([]:List Int)).length:Int))=false from bK (by simp)]
   simp only [bP,lB,bT]
   exact this
  |cons y R=>
   have hy:=hR0 y R rfl
   have hg:C0 (L++y::R) (L.length:Int)=some y:=Lw _ _ _ _ rfl
   by_cases hxy:y=x
   ·subst hxy
    refine ⟨L++y::R,fun i'=>⟨?_,hs,fun z=>⟨.inr,fun h=>h.elim (fun h=>by rw [h];simp) id⟩,by simp⟩⟩
    rw [show decide ((L.length:Int)< ((L++y::R).length:Int))=true from bJ (by simp;omega)]
    simp only [bO,hg,lB,bS]
    rw [show (y==y)=true by simp];rfl
   ·refine ⟨L++x::y::R,fun i'=> ?_⟩
    have:=hgo i'
    obtain ⟨q1,q2⟩:=bB.1 p2
    refine ⟨?_,bC.2 ⟨p1,bB.2 ⟨fun z hz=> ?_,p2⟩,fun a ha b hb=> ?_⟩,fun z=>by simp only [lT,lU];constructor<;>(intro h;rcases h with h|h|h|h<;>simp [h]),by simp;omega⟩
    ·rw [show decide ((L.length:Int)< ((L++y::R).length:Int))=true from bJ (by simp;omega)]
     simp only [bO,hg,lB,bS]
     rw [show (y==x)=false by simp [hxy],bP]
     exact this
    ·rcases lU.1 hz with rfl|hz
     ·omega
     ·have:=q1 z hz;omega
    ·rcases lU.1 hb with rfl|hb
     ·exact hL a ha
     ·exact p3 a ha b hb
theorem oI {m:Map}(B:BearM m)(V:ValR m)(lane:Int){tick:Int}(ht:0≤tick): ∀(r:List Zone) (i:Nat) (out:List Int),m.Zones.drop i=r→i≤m.Zones.length→out.Pairwise (· < ·)→out.length+r.length≤100→
    ∃R,loop (Hl m lane tick) (out,(i:Int))=some R∧R.Pairwise (· < ·)∧(∀y,y∈R↔y∈out∨y∈r.flatMap (Cn m lane tick))∧R.length≤100:=by
  intro r
  induction r with
  |nil=>
   intro i out hi hil hs hl
   have:=N8 hi
   obtain rfl:i=m.Zones.length:=by omega
   refine ⟨out,C6 ?_,hs,fun y=>by simp,by simpa using hl⟩
   unfold Hl
   rw [I0];rfl
  |cons z r ih=>
   intro i out hi hil hs hl
   have hlt:=M9 hi
   have hz:=U6 hi
   have hzm:=lG hz
   have Z:=V.zoneOK hzm
   have hsg:=Z.sig
   have hns:=V.signals
   have hnz:=V.zones
   simp only [lL]at hl
   have hpl:z.Parts.length≤1000000:=by have:=Z.six;omega
   suffices h: ∃out',Hl m lane tick (out,(i:Int))=some (.go (out',((i+1:Nat):Int)))∧out'.Pairwise (· < ·)∧(∀y,y∈out'↔y∈out∨y∈Cn m lane tick z)∧out'.length≤out.length+1 by
     obtain ⟨out',g1,g2,g3,g4⟩:=h
     obtain ⟨R,k1,k2,k3,k4⟩:=ih (i+1) out' (K5 hi) (by omega) g2 (by omega)
     refine ⟨R,by rw [J2 g1];exact k1,k2,fun y=> ?_,k4⟩
     rw [k3,g3,bF,lT,or_assoc]
   unfold Hl
   dsimp only
   rw [J6 hlt,C3 hz,bO,lB,TF hpl,lB,G7 hlt (by omega),F5 (n:=z.Signal_ - 1) (by omega)]
   have hzl:Cn m lane tick z=if z.Signal_==0 then []else match z.Parts.find? (fun p=>p.Lane_==lane)with|some p=>if Wg (Xa m z) lane tick=true then []else [p.From]|none=> []:=by
     unfold Cn
     rw [OB m lane tick z z.Parts (Mp Z.rise)]
   have hskip:Cn m lane tick z= []→∃out',some (.go (out,((i+1:Nat):Int)):Stp (List Int×Int) (List Int))=some (.go (out',((i+1:Nat):Int)))∧out'.Pairwise (· < ·)∧(∀y,y∈out'↔y∈out∨y∈Cn m lane tick z)∧out'.length≤out.length+1:=fun h=>⟨out,rfl,hs,fun y=>by rw [h];simp,by omega⟩
   cases hp:z.Parts.find? (fun p=>p.Lane_==lane)with
   |none=>
    have hpm:Jr z lane=(⟨0,0,0,0⟩,false):=by unfold Jr;rw [hp]
    rw [hpm]
    simp only [bX,Bool.true_or,bW,bP,lB,bO]
    refine hskip ?_
    rw [hzl,hp]
    split<;>rfl
   |some p=>
    have hpm:Jr z lane=(p,true):=by unfold Jr;rw [hp]
    rw [hpm]
    by_cases h0:z.Signal_=0
    ·rw [show (z.Signal_==0)=true by simp [h0]]
     simp only [bW,bY,bP,lB,Bool.true_or,bO]
     refine hskip ?_
     rw [hzl,bQ (by simp [h0])]
    ·have hk:(z.Signal_ - 1).toNat<m.Signals.length:=by omega
     have hget:m.Signals[(z.Signal_ - 1).toNat]? =some (Xa m z):=by rw [Xa,List.getD,lH hk];rfl
     have hg:C0 m.Signals (z.Signal_ - 1)=some (Xa m z):=by unfold C0;rw [bQ (by omega),hget]
     rw [show (z.Signal_==0)=false by simp [h0]]
     simp only [bW,bY,bX,bO,lB,hg,OA (V.sig B hget) lane ht]
     rw [bR (by simp [h0]),hp]at hzl
     cases hgr:Wg (Xa m z) lane tick with
     |true=>
      rw [bO]
      refine hskip ?_
      rw [hzl,hgr];rfl
     |false=>
      rw [hgr]at hzl
      have hzl':Cn m lane tick z= [p.From]:=hzl
      have h2:loop (Hj (out,(i:Int)) (p,true)) 0=some (((out.takeWhile fun y=>decide (y<p.From)).length:Nat):Int):=by
        have:=kJ out (p,true) (i:Int) (by omega) out 0 rfl (by omega)
        rw [wK]at this
        exact this
      obtain ⟨out',hk1⟩:=gH out p.From hs (by omega)
      obtain ⟨k1,k2,k3,k4⟩:=hk1 ((i+1:Nat):Int)
      rw [bP,h2,lB]
      exact ⟨out',k1,k2,fun y=>by rw [k3,hzl',bI,or_comm],k4⟩
theorem kK {m:Map}(B:BearM m)(lane tick:Int): ∃R,Es m lane tick=some R∧Us m lane tick=some R∧R.length≤1000:=by
  obtain ⟨R,r1,r2,r3,r4⟩:=oH B lane tick
  refine ⟨R,r1,?_,r4⟩
  unfold Us
  rw [Uf B,lB]
  by_cases ht:tick<0
  ·have:R= []:=List.eq_nil_iff_forall_not_mem.2 fun x hx=>by have:=(r3 x).1 hx;omega
   rw [this,show decide (tick<0)=true from bJ ht,Bool.or_true];rfl
  ·rw [show decide (tick<0)=false from bK ht,Bool.or_false]
   cases hi:QO m lane
   ·have:R= []:=List.eq_nil_iff_forall_not_mem.2 fun x hx=>by have:=(r3 x).1 hx;rw [hi]at this;cases this.2.1
    rw [this];rfl
   ·have V:=(isM_true.1 hi).2.2
    obtain ⟨R',k1,k2,k3,_⟩:=oI B V lane (tick:=tick) (by omega) m.Zones 0 [] rfl (by omega) List.Pairwise.nil (by simp;have:=V.zones;omega)
    have k1':loop (Hl m lane tick) ([],0)=some R':=k1
    have:R=R':=LC r2 k2 fun x=>by
      rw [r3,k3]
      exact ⟨fun h=> .inr h.2.2,fun h=>⟨by omega,hi,h.elim (fun h=>absurd h (by simp)) id⟩⟩
    unfold HA
    rw [this,k1'];rfl
def EZ (x y:Int):Int:=if x<y then -1 else if x>y then 1 else 0
def kL (a b:Pass):Int:=if EZ a.From b.From≠0 then EZ a.From b.From else EZ a.Zone_ b.Zone_
def Xb (a b:Pass):Bool:=decide (a.From<b.From∨a.From=b.From∧a.Zone_<b.Zone_)
theorem ltP_ok:LtOK Xb:=⟨fun a b h=>by simp only [Xb,bM,wC]at h ⊢;omega,fun a b c h1 h2=>by simp only [Xb,wC]at h1 h2 ⊢;omega⟩
theorem kM (a b:Pass):decide (kL a b<0)=Xb a b:=by
  unfold kL Xb EZ
  rw [decide_eq_decide]
  split<;>(repeat' split)<;>omega
theorem pV (x y:Int):Bc [x,y]=some (if x≠0 then x else y):=by
  have f0:Z3 [x,y] 0=some (if x≠0 then .out (.inr x)else .go 1):=by
    by_cases h:x=0
    ·subst h;rfl
    ·have hb:(x !=0)=true:=by simp [h]
     unfold Z3
     simp [C0,h,hb]
  have f1:Z3 [x,y] 1=some (if y≠0 then .out (.inr y)else .go 2):=by
    by_cases h:y=0
    ·subst h;rfl
    ·have hb:(y !=0)=true:=by simp [h]
     unfold Z3
     simp [C0,h,hb]
  have f2:Z3 [x,y] 2=some (.out (.inl ())):=rfl
  unfold Bc
  by_cases hx:x=0
  ·by_cases hy:y=0
   ·rw [J2 (by rw [f0,bR (by simp [hx])]),J2 (by rw [f1,bR (by simp [hy])]),C6 f2]
    subst hx hy;rfl
   ·rw [J2 (by rw [f0,bR (by simp [hx])]),C6 (by rw [f1,bQ hy]),bR (by simp [hx])];rfl
  ·rw [C6 (by rw [f0,bQ hx]),bQ hx];rfl
theorem Wh (a b:Int):Ac a b=some (EZ a b):=by
  have h: ∀x:Int,W6 x=some false:=fun x=>by unfold W6;simp
  unfold Ac EZ
  rw [h,h]
  simp only [lB,bP,XN]
  split<;>(repeat' split)<;>rfl
theorem Ss (a b:Int):Y2 a b=some (EZ a b):=by
  have h: ∀x:Int,Jj x=some false:=fun x=>by unfold Jj;simp
  unfold Y2 EZ
  rw [h,h]
  simp only [lB,bP,XN]
  split<;>(repeat' split)<;>rfl
theorem kN (a b:Pass):By a b=some (kL a b):=by
  unfold By kL
  rw [Wh,lB,Ss,lB,pV];rfl
theorem WK (P T:List Pass)(x:Pass)(Q:List Pass)(hs:Srt Xb Q)(hN:(P++Q++x::T).length≤1000000):
    ∃Q',loop (D1 (P.length:Int)) (((P.length+Q.length:Nat):Int),P++Q++x::T)=some (P++Q'++T)∧Q'.Perm (x::Q)∧Srt Xb Q':=by
  have hstop: ∀xs,D1 (P.length:Int) ((P.length:Int),xs)=some (.out xs):=fun xs=>by
    unfold D1
    simp only [show decide ((P.length:Int)>(P.length:Int))=false from bK (by omega),bP,bT,lB]
  have hF: ∀(U V:List Pass) (q y:Pass),P.length≤U.length→(U++q::y::V).length=(P++Q++x::T).length→D1 (P.length:Int) (((U.length:Int)+1),U++q::y::V)=some (if Xb y q then .go ((U.length:Int),U++y::q::V)else .out (U++q::y::V)):=fun U V q y hP hl=>by
    unfold D1
    have hb:U.length+2≤1000000:=by rw [← hl]at hN;simp at hN;omega
    have e1:D6 ((U.length:Int)+1 - 1)=(U.length:Int):=by rw [F5 (by omega)];omega
    have g1:C0 (U++q::y::V) ((U.length:Int)+1)=some y:=by rw [aC];exact Lw _ _ _ _ (by simp)
    have g2:C0 (U++q::y::V) (U.length:Int)=some q:=Lw _ _ _ _ rfl
    have s1:Ln (U++q::y::V) ((U.length:Int)+1) q=U++q::q::V:=by rw [aC,Uz _ _ _ _ _ (by simp)];simp
    have g3:C0 (U++q::q::V) (U.length:Int)=some q:=Lw _ _ _ _ rfl
    have s2:Ln (U++q::q::V) (U.length:Int) y=U++y::q::V:=Uz _ _ _ _ _ rfl
    simp only [show decide (((U.length:Int)+1)>(P.length:Int))=true from bJ (by omega),bO,bS,e1,g1,g2,s1,g3,s2,lB,kN,kM]
    cases Xb y q<;>rfl
  obtain ⟨Q',h1,h2,h3⟩:=GD ltP_ok (P:=P) (T:=T) (P++Q++x::T).length hstop hF x Q.length Q [] rfl (by simpa using hs) (by simp) (by simp)
  refine ⟨Q',?_,by simpa using h2,h3⟩
  rw [← h1];congr 1;simp
theorem QH (P A S:List Pass)(hN:(P++A++S).length≤1000000):
    ∃A',D4 (P++A++S) (P.length:Int) ((P.length+A.length:Nat):Int)=some (P++A'++S)∧A'.Perm A∧Srt Xb A':=by
  unfold D4
  have hend: ∀(xs:List Pass) (i:Nat),P.length+A.length≤i→D7 (P.length:Int) ((P.length+A.length:Nat):Int) ((i:Int),xs)=some (.out xs):=fun xs i hi=>by
    unfold D7
    rw [show decide ((i:Int)< ((P.length+A.length:Nat):Int))=false from bK (by omega)];rfl
  simp only [lM]at hN
  have hw:D6 ((P.length:Int)+1)=((P.length+1:Nat):Int):=by rw [F5 (by omega)];omega
  cases A with
  |nil=>
   refine ⟨[],?_,by simp,List.Pairwise.nil⟩
   rw [hw,C6 (hend _ _ (by simp))]
  |cons a A=>
   have hF: ∀(Q R:List Pass) (x:Pass),(P++Q++x::R++S).length=(P++a::A++S).length→P.length+Q.length<P.length+ (a::A).length→Srt Xb Q→∃Q',D7 (P.length:Int) ((P.length+ (a::A).length:Nat):Int) (((P.length+Q.length:Nat):Int),P++Q++x::R++S)=some (.go (((P.length+Q.length+1:Nat):Int),P++Q'++R++S))∧Q'.Perm (x::Q)∧Srt Xb Q':=fun Q R x hl hb hs=>by
     obtain ⟨Q',k1,k2,k3⟩:=WK P (R++S) x Q hs (by simp only [lM,lL]at hl hN ⊢;omega)
     refine ⟨Q',?_,k2,k3⟩
     unfold D7
     have e1:P++Q++x::R++S=P++Q++x::(R++S):=by simp
     rw [show decide (((P.length+Q.length:Nat):Int)< ((P.length+ (a::A).length:Nat):Int))=true from bJ (by omega),bO]
     simp only [e1,k1,lB]
     rw [F5 (by simp only [lL]at hN hb;omega)]
     simp
   obtain ⟨A',h1,h2,h3⟩:=NX (lt:=Xb) (P:=P) (S:=S) (P++a::A++S).length (P.length+ (a::A).length) hend hF A [a] (by simp) (by simp;omega) (List.pairwise_singleton _ _)
   refine ⟨A',?_,h2,h3⟩
   rw [hw,← h1];congr 1;simp
theorem kO (x y:Nat)(h:x+y≤4000000):D6 ((IntKind.wrap .u64 (D6 ((x:Int)+ (y:Int)))).fdiv (2^ (min (1:Int).toNat (IntKind.bits .u64))))=(((x+y) / 2:Nat):Int):=by
  rw [F5 (n:=(x:Int)+ (y:Int)) (by omega)]
  have e:IntKind.wrap .u64 ((x:Int)+ (y:Int))=(x:Int)+ (y:Int):=by
    unfold IntKind.wrap
    simp only [IntKind.signed,IntKind.bits,bT,Bool.false_eq_true,if_false]
    omega
  rw [e,show (2:Int)^ (min (1:Int).toNat (IntKind.bits .u64))=2 from rfl,Int.fdiv_eq_ediv_of_nonneg _ (by omega),F5 (by omega)]
  omega
def BlkS (w:Nat)(l:List Pass):Prop:= ∀i,Srt Xb ((l.drop (i*w)).take w)
theorem BlkS.cons {w:Nat}{M R:List Pass}(hM:M.length=w)(h1:Srt Xb M)(h2:BlkS w R):BlkS w (M++R):=by
  intro i
  cases i with
  |zero=>rw [Nat.zero_mul,List.drop_zero,List.take_append_of_le_length (by omega),List.take_of_length_le (by omega)];exact h1
  |succ i=>
   have:=h2 i
   rw [wJ,Nat.one_mul,List.drop_append,List.drop_eq_nil_of_le (by omega),lQ,show i*w+w - M.length=i*w by omega]
   exact this
theorem BlkS.last {w:Nat}{M:List Pass}(hM:M.length≤w)(h1:Srt Xb M):BlkS w M:=by
  intro i
  exact h1.sublist ((List.take_sublist _ _).trans (List.drop_sublist _ _))
theorem BlkS.drop {w:Nat}{R:List Pass}(h:BlkS w R):BlkS w (R.drop w):=by
  intro i
  have:=h (i+1)
  rwa [wJ,Nat.one_mul,Nat.add_comm,← List.drop_drop]at this
theorem BlkS.head {w:Nat}{R:List Pass}(h:BlkS w R):Srt Xb (R.take w):=by
  have:=h 0
  rwa [Nat.zero_mul,List.drop_zero]at this
theorem pW (n:Nat)(hn:n≤100): ∀(k:Nat) (R D:List Pass),R.length≤k→D.length+R.length=n→
    ∃y R',loop (E0 (n:Int)) ((D.length:Int),((D.length+20:Nat):Int),D++R)=some y∧D4 y.2 y.1 (n:Int)=some (D++R')∧BlkS 20 R'∧R'.Perm R:=by
  intro k
  induction k with
  |zero=>
   intro R D hk hl
   obtain rfl:=List.length_eq_zero_iff.1 (show R.length=0 by omega)
   obtain ⟨A',g1,g2,g3⟩:=QH D [] [] (by simp;omega)
   simp only [lP,lN,Nat.add_zero]at g1 hl ⊢
   refine ⟨_,A',C6 (t:=((D.length:Int),D)) ?_,by rw [← hl];exact g1, .last (by rw [g2.length_eq];simp) g3,g2⟩
   unfold E0
   rw [show decide (((D.length+20:Nat):Int)≤(n:Int))=false from bK (by omega)];rfl
  |succ k ih=>
   intro R D hk hl
   by_cases h20:20≤R.length
   ·have eR:=List.take_append_drop 20 R
    have l1:(R.take 20).length=20:=by rw [lV];omega
    obtain ⟨A',g1,g2,g3⟩:=QH D (R.take 20) (R.drop 20) (by rw [lO,eR];simp;omega)
    have lA:A'.length=20:=by rw [g2.length_eq];exact l1
    rw [l1,lO,eR]at g1
    obtain ⟨y,R',k1,k2,k3,k4⟩:=ih (R.drop 20) (D++A') (by rw [List.length_drop];omega) (by rw [lM,List.length_drop];omega)
    refine ⟨y,A'++R',?_,by rw [k2,lO], .cons lA g3 k3,?_⟩
    ·rw [← k1,show (D++A').length=D.length+20 by rw [lM,lA]]
     refine J2 ?_
     unfold E0
     simp only [show decide (((D.length+20:Nat):Int)≤(n:Int))=true from bJ (by omega),bO,g1,lB]
     rw [F5 (n:=((D.length+20:Nat):Int)+20) (by omega)]
     simp
    ·exact (g2.append k4).trans (by rw [eR])
   ·obtain ⟨A',g1,g2,g3⟩:=QH D R [] (by simp;omega)
    simp only [lP]at g1
    rw [hl]at g1
    refine ⟨_,A',C6 (t:=((D.length:Int),D++R)) ?_,g1, .last (by rw [g2.length_eq];omega) g3,g2⟩
    unfold E0
    rw [show decide (((D.length+20:Nat):Int)≤(n:Int))=false from bK (by omega)];rfl
theorem aF (xs:List Pass)(h:xs.length≤19): ∃ys,F9 xs=some ys∧ys.Perm xs∧Srt Xb ys:=by
  obtain ⟨y,R,k1,k2,k3,k4⟩:=pW xs.length (by omega) xs.length xs [] (wH _) (by simp)
  refine ⟨R,?_,k4,?_⟩
  ·unfold F9 J8
   have k1':loop (E0 (xs.length:Int)) (0,20,xs)=some y:=k1
   have k2':D4 y.2 y.1 (xs.length:Int)=some R:=k2
   have g1':loop (H4 (xs.length:Int) R) 20=some R:=by
     refine C6 ?_
     unfold H4
     rw [show decide ((20:Int)< (xs.length:Int))=false from bK (by omega)];rfl
   simp only [k1',lB,k2',g1']
  ·have:=k3.head
   rwa [List.take_of_length_le (by rw [k4.length_eq];omega)]at this
theorem CU:G0=some ():=by
  have i0:E9 0 0=some ():=by
    unfold E9
    exact C6 rfl
  have h1:loop (I7 0) (0,20)=some 0:=C6 rfl
  have h2:loop (I6 0) 20=some ():=C6 rfl
  unfold G0 J9
  simp only [h1,lB,i0,h2]
end Go.Abs.World
