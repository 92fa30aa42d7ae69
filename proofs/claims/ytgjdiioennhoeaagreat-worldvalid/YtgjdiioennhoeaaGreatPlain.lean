/-
  Plain facts on the functions: what they compute, and that the law holds of it.
-/
import Derived.Test.YtgjdiioennhoeaaGreatFns4
set_option maxRecDepth 100000
set_option synthInstance.maxHeartbeats 0
set_option synthInstance.maxSize 100000
set_option linter.unusedVariables false
namespace Go.Abs.World
open Go Go.Abs
noncomputable def Pl (p1:State)(x1:(Int×State)):Option (Stp (Int×State) State):=
  cond (decide (x1.1< (p1.Agents.length:Int))) ((C0 p1.Agents x1.1).bind fun v2=>(X3 ([]:List Int) v2.Route).bind fun v3=>(X3 x1.2.Agents [(Agent.mk v3 v2.S v2.V v2.Len v2.Begin v2.Obey v2.Gone)]).bind fun v4=>some (.go ((D6 (x1.1+1)),(State.mk x1.2.Tick v4 x1.2.In)))) (some (.out x1.2))
noncomputable def KG [Lp](p1:State):Option State:=
  (X3 ([]:List Stay) p1.In).bind fun v1=>(loop (Pl p1) (0,(State.mk p1.Tick [] v1))).bind fun y1=>some y1
noncomputable def Hj (x1:((List Int)×Int))(v2:(Part×Bool))(x2:Int):Option (Stp Int Int):=
  ((cond (decide (x2< (x1.1.length:Int))) (C0 x1.1 x2) (some default))).bind fun v5=>cond ((decide (x2< (x1.1.length:Int)))&& (decide (v5<v2.1.From))) (some (.go (D6 (x2+1)))) (some (.out x2))
noncomputable def Hl [Lp](p1:Map)(p2:Int)(p3:Int)(x1:((List Int)×Int)):Option (Stp ((List Int)×Int) (List Int)):=
  cond (decide (x1.2< (p1.Zones.length:Int))) ((C0 p1.Zones x1.2).bind fun v1=>(Sh v1 p2).bind fun v2=>((cond (!((!v2.2)||(v1.Signal_==0))) (C0 p1.Signals (D6 (v1.Signal_ - 1))) (some default))).bind fun v3=>((cond (!((!v2.2)||(v1.Signal_==0))) (Nc v3 p2 p3) (some default))).bind fun v4=>cond (((!v2.2)||(v1.Signal_==0))||v4) (some (.go (x1.1,(D6 (x1.2+1))))) ((loop (Hj x1 v2) 0).bind fun y2=>((cond (decide (y2< (x1.1.length:Int))) (C0 x1.1 y2) (some default))).bind fun v6=>cond ((decide (y2< (x1.1.length:Int)))&& (v6==v2.1.From)) (some (.go (x1.1,(D6 (x1.2+1))))) ((AA x1.1 0 y2).bind fun v7=>(X3 ([]:List Int) v7).bind fun v8=>(X3 v8 [v2.1.From]).bind fun v9=>(AA x1.1 y2 (x1.1.length:Int)).bind fun v10=>(X3 v9 v10).bind fun v11=>some (.go (v11,(D6 (x1.2+1))))))) (some (.out x1.1))
noncomputable def GW [Lp](p1:Map)(p2:Int)(p3:Int):Option (List Int):=
  (loop (Hl p1 p2 p3) ([],0)).bind fun y1=>some y1
noncomputable def Up [Lp](p1:Map)(p2:Int)(p3:Int):Option (List Int):=
  (Mp p1 p2).bind fun v1=>cond ((!v1)||(decide (p3<0))) (some []) ((GW p1 p2 p3).bind fun v2=>some v2)
noncomputable def Dm (p2:Int)(x1:(Int×Int)):Option (Stp (Int×Int) Int):=
  cond (decide (x1.1>(Mi false p2 1000000))) (some (.go ((D6 (x1.1 - (Mi false p2 1000000))),(D6 (x1.2+ (D6 (x1.1 - (Mi false p2 1000000)))))))) (some (.out x1.2))
noncomputable def Vx [Lp](p1:Int)(p2:Int):Option Int:=
  cond ((decide ((Mi false p1 1000000)<1))||(decide ((Mi false p2 1000000)<1))) (some 0) ((loop (Dm p2) ((Mi false p1 1000000),0)).bind fun y1=>some y1)
noncomputable def Sk [Lp](p1:(List Int))(p2:Int)(p3:Int)(p4:Int)(p5:Int)(x1:Int):Option (Stp Int (Sum Unit Bool)):=
  cond (decide (x1< (p1.length:Int))) ((C0 p1 x1).bind fun v1=>((cond (decide (v1>p2)) (Vx p3 p5) (some default))).bind fun v2=>((cond (decide (v1>p2)) (C0 p1 x1) (some default))).bind fun v3=>((cond ((decide (v1>p2))&& (decide ((D6 (p2+v2))<v3))) (Vx p4 p5) (some default))).bind fun v4=>((cond ((decide (v1>p2))&& (decide ((D6 (p2+v2))<v3))) (C0 p1 x1) (some default))).bind fun v5=>cond (((decide (v1>p2))&& (decide ((D6 (p2+v2))<v3)))&& (decide ((D6 ((D6 (p2+p4))+v4))≥v5))) (some (.out (.inr false))) (some (.go (D6 (x1+1))))) (some (.out (.inl ())))
noncomputable def Yx [Lp](p1:(List Int))(p2:Int)(p3:Int)(p4:Int)(p5:Int):Option Bool:=
  thenS (loop (Sk p1 p2 p3 p4 p5) 0) (fun _=>some true) (fun r=>some r)
noncomputable def Jo [Lp](p2:Agent)(v1:(Int×Int))(v3:(Int×Int×Int))(v5:(List Int))(x1:(Int×Int)):Option (Stp (Int×Int) Int):=
  ((cond (decide (x1.1>(D6 (0 - v3.2.2)))) (Yx v5 v1.2 p2.V x1.2 v3.2.2) (some default))).bind fun v6=>cond ((decide (x1.1>(D6 (0 - v3.2.2))))&& (!v6)) (some (.go ((D6 (x1.1 - 1)),(Mi true 0 (Mi false (D6 (p2.V+ (D6 (x1.1 - 1)))) v3.1))))) (some (.out x1.2))
noncomputable def Vy [Lp](p1:Map)(p2:Agent)(p3:Int)(p4:Int):Option Agent:=
  (Oy p1 p2).bind fun v1=>(C0 p1.Lanes v1.1).bind fun v2=>(By v2.Kind).bind fun v3=>((cond p2.Obey (La p1 v1.1) (some default))).bind fun v4=>(cond (p2.Obey&& (decide (v1.2≤v4))) ((Up p1 v1.1 p3).bind fun v5=>(loop (Jo p2 v1 v3 v5) ((Mi true (D6 (0 - v3.2.2)) (Mi false p4 v3.2.1)),(Mi true 0 (Mi false (D6 (p2.V+ (Mi true (D6 (0 - v3.2.2)) (Mi false p4 v3.2.1)))) v3.1)))).bind fun y2=>some y2) (some (Mi true 0 (Mi false (D6 (p2.V+ (Mi true (D6 (0 - v3.2.2)) (Mi false p4 v3.2.1)))) v3.1)))).bind fun y1=>(Mn p1 (Agent.mk p2.Route (D6 (p2.S+y1)) y1 p2.Len p2.Begin p2.Obey p2.Gone)).bind fun v7=>some (Agent.mk p2.Route (D6 (p2.S+y1)) y1 p2.Len p2.Begin p2.Obey v7)
noncomputable def KH [Lp](p1:Map)(p2:State)(p3:Int)(p4:Int):Option Agent:=
  cond ((decide (p3<0))||(decide (p3≥(p2.Agents.length:Int)))) (some (Agent.mk [] 0 0 0 0 false false)) ((C0 p2.Agents p3).bind fun v1=>(X3 ([]:List Int) v1.Route).bind fun v2=>(Nb p1 p2).bind fun v3=>((cond (!(v3 !=0)) (Ia p2 p3) (some default))).bind fun v4=>cond ((v3 !=0)||(!v4)) (some (Agent.mk v2 v1.S v1.V v1.Len v1.Begin v1.Obey v1.Gone)) ((Vy p1 (Agent.mk v2 v1.S v1.V v1.Len v1.Begin v1.Obey v1.Gone) p2.Tick p4).bind fun v5=>some v5))
instance (a)(b)(c)(d):Le (@U2 V9 a b c d) (U2 a b c d):=by unfold U2;infer_instance
instance:Le (@Rg V9) (Rg):=by unfold Rg;infer_instance
instance (a):Le (@Ie V9 a) (Ie a):=by unfold Ie;infer_instance
instance (a):Le (@Kb V9 a) (Kb a):=by unfold Kb;infer_instance
instance curve_root_le (a):Le (@Ft V9 a) (Ft a):=by unfold Ft;infer_instance
instance (a)(b):Le (@X9 V9 a b) (X9 a b):=by unfold X9;infer_instance
instance (a):Le (@Fa V9 a) (Fa a):=by unfold Fa;infer_instance
instance (a)(b)(c):Le (@Bo V9 a b c) (Bo a b c):=by unfold Bo;infer_instance
instance (a)(b):Le (@Q8 V9 a b) (Q8 a b):=by unfold Q8;infer_instance
instance (a):Le (@V2 V9 a) (V2 a):=by unfold V2;infer_instance
instance (a)(b):Le (@P6 V9 a b) (P6 a b):=by unfold P6;infer_instance
instance (a):Le (@T9 V9 a) (T9 a):=by unfold T9;infer_instance
instance (a):Le (@H4 V9 a) (H4 a):=by unfold H4;infer_instance
instance (a):Le (@F0 V9 a) (F0 a):=by unfold F0;infer_instance
instance (a)(b):Le (@T0 V9 a b) (T0 a b):=by unfold T0;infer_instance
instance (a)(b)(c):Le (@E8 V9 a b c) (E8 a b c):=by unfold E8;infer_instance
instance (a)(b):Le (@G7 V9 a b) (G7 a b):=by unfold G7;infer_instance
instance (a)(b):Le (@E9 V9 a b) (E9 a b):=by unfold E9;infer_instance
instance (a)(b):Le (@P0 V9 a b) (P0 a b):=by unfold P0;infer_instance
instance (a):Le (@S5 V9 a) (S5 a):=by unfold S5;infer_instance
instance piecesGo_le (pts:List Spot): ∀(n i:Nat) (s:Int),Le (@Ix V9 pts n i s) (Ix pts n i s)
  |0,i,s=>Le.refl _
  |n+1,i,s=>by
   unfold Ix
   have:=fun i s=>piecesGo_le pts n i s
   infer_instance -- curve_root_le
instance (a):Le (@Th V9 a) (Th a):=by unfold Th;infer_instance
instance (a):Le (@Fb V9 a) (Fb a):=by unfold Fb;infer_instance
instance curve_Length_le (a):Le (@Dd V9 a) (Dd a):=by unfold Dd;infer_instance
instance (a)(b):Le (@Ct V9 a b) (Ct a b):=by unfold Ct;infer_instance
instance (a)(b)(c):Le (@Q9 V9 a b c) (Q9 a b c):=by unfold Q9;infer_instance
instance (a)(b):Le (@R0 V9 a b) (R0 a b):=by unfold R0;infer_instance
instance (a):Le (@V3 V9 a) (V3 a):=by unfold V3;infer_instance
instance (a)(b):Le (@R3 V9 a b) (R3 a b):=by unfold R3;infer_instance
instance (a):Le (@V4 V9 a) (V4 a):=by unfold V4;infer_instance
instance (a)(b):Le (@T1 V9 a b) (T1 a b):=by unfold T1;infer_instance
instance (a)(b):Le (@O8 V9 a b) (O8 a b):=by unfold O8;infer_instance
instance roads_Check_le (a):Le (@Cb V9 a) (Cb a):=by unfold Cb;infer_instance
instance (a)(b):Le (@R4 V9 a b) (R4 a b):=by unfold R4;infer_instance
instance (a)(b):Le (@N4 V9 a b) (N4 a b):=by unfold N4;infer_instance
instance (a)(b)(c):Le (@Ar V9 a b c) (Ar a b c):=by unfold Ar;infer_instance
instance (a)(b):Le (@Fd V9 a b) (Fd a b):=by unfold Fd;infer_instance
instance (a)(b)(c):Le (@Q0 V9 a b c) (Q0 a b c):=by unfold Q0;infer_instance
instance (a)(b):Le (@W9 V9 a b) (W9 a b):=by unfold W9;infer_instance
instance (a)(b)(c):Le (@W5 V9 a b c) (W5 a b c):=by unfold W5;infer_instance
instance (a)(b):Le (@Ab V9 a b) (Ab a b):=by unfold Ab;infer_instance
instance (a)(b):Le (@V5 V9 a b) (V5 a b):=by unfold V5;infer_instance
instance (a)(b):Le (@Bq V9 a b) (Bq a b):=by unfold Bq;infer_instance
instance (a)(b):Le (@If V9 a b) (If a b):=by unfold If;infer_instance
instance (a)(b):Le (@Fu V9 a b) (Fu a b):=by unfold Fu;infer_instance
instance (a)(b)(c):Le (@Y7 V9 a b c) (Y7 a b c):=by unfold Y7;infer_instance
instance (a):Le (@Bf V9 a) (Bf a):=by unfold Bf;infer_instance
instance (a)(b):Le (@Di V9 a b) (Di a b):=by unfold Di;infer_instance
instance (a)(b):Le (@K0 V9 a b) (K0 a b):=by unfold K0;infer_instance
instance (a)(b):Le (@F8 V9 a b) (F8 a b):=by unfold F8;infer_instance
instance (a)(b)(c):Le (@Ad V9 a b c) (Ad a b c):=by unfold Ad;infer_instance
instance (a)(b)(c):Le (@Ae V9 a b c) (Ae a b c):=by unfold Ae;infer_instance
instance (a)(b):Le (@Cc V9 a b) (Cc a b):=by unfold Cc;infer_instance
instance (a):Le (@L5 V9 a) (L5 a):=by unfold L5;infer_instance
instance (a):Le (@K6 V9 a) (K6 a):=by unfold K6;infer_instance
instance (a)(b):Le (@Cd V9 a b) (Cd a b):=by unfold Cd;infer_instance
instance (a)(b):Le (@D0 V9 a b) (D0 a b):=by unfold D0;infer_instance
instance (a)(b)(c):Le (@D7 V9 a b c) (D7 a b c):=by unfold D7;infer_instance
instance (a)(b)(c):Le (@D3 V9 a b c) (D3 a b c):=by unfold D3;infer_instance
instance (a)(b)(c):Le (@G9 V9 a b c) (G9 a b c):=by unfold G9;infer_instance
instance (a)(b):Le (@E0 V9 a b) (E0 a b):=by unfold E0;infer_instance
instance (a)(b):Le (@J7 V9 a b) (J7 a b):=by unfold J7;infer_instance
instance (a):Le (@F9 V9 a) (F9 a):=by unfold F9;infer_instance
instance (a)(b)(c):Le (@I4 V9 a b c) (I4 a b c):=by unfold I4;infer_instance
instance (a)(b):Le (@E7 V9 a b) (E7 a b):=by unfold E7;infer_instance
instance (a)(b):Le (@I5 V9 a b) (I5 a b):=by unfold I5;infer_instance
instance (a)(b):Le (@I6 V9 a b) (I6 a b):=by unfold I6;infer_instance
instance (a):Le (@J8 V9 a) (J8 a):=by unfold J8;infer_instance
instance:Le (@G0 V9) (G0):=by unfold G0;infer_instance
instance (a)(b)(c)(d)(e):Le (@U3 V9 a b c d e) (U3 a b c d e):=by unfold U3;infer_instance
instance (a)(b)(c):Le (@O4 V9 a b c) (O4 a b c):=by unfold O4;infer_instance
instance (a)(b):Le (@V8 V9 a b) (V8 a b):=by unfold V8;infer_instance
instance (a)(b)(c):Le (@J0 V9 a b c) (J0 a b c):=by unfold J0;infer_instance
instance (a)(b)(c):Le (@G2 V9 a b c) (G2 a b c):=by unfold G2;infer_instance
instance (a)(b)(c)(d):Le (@Dj V9 a b c d) (Dj a b c d):=by unfold Dj;infer_instance
instance (a)(b)(c):Le (@N5 V9 a b c) (N5 a b c):=by unfold N5;infer_instance
instance (a)(b)(c):Le (@D4 V9 a b c) (D4 a b c):=by unfold D4;infer_instance
instance (a)(b):Le (@D1 V9 a b) (D1 a b):=by unfold D1;infer_instance
instance (a)(b):Le (@K4 V9 a b) (K4 a b):=by unfold K4;infer_instance
instance (a)(b):Le (@Kd V9 a b) (Kd a b):=by unfold Kd;infer_instance
instance (a)(b)(c):Le (@Ag V9 a b c) (Ag a b c):=by unfold Ag;infer_instance
instance (a)(b)(c)(d):Le (@H8 V9 a b c d) (H8 a b c d):=by unfold H8;infer_instance
instance (a)(b)(c):Le (@I8 V9 a b c) (I8 a b c):=by unfold I8;infer_instance
instance (a)(b)(c):Le (@Hu V9 a b c) (Hu a b c):=by unfold Hu;infer_instance
instance (a)(b)(c):Le (@Dk V9 a b c) (Dk a b c):=by unfold Dk;infer_instance
instance (a)(b):Le (@Lu V9 a b) (Lu a b):=by unfold Lu;infer_instance
instance (a)(b)(c):Le (@U4 V9 a b c) (U4 a b c):=by unfold U4;infer_instance
instance (a)(b)(c):Le (@Fh V9 a b c) (Fh a b c):=by unfold Fh;infer_instance
instance (a)(b)(c)(d):Le (@Hv V9 a b c d) (Hv a b c d):=by unfold Hv;infer_instance
instance (a)(b):Le (@I9 V9 a b) (I9 a b):=by unfold I9;infer_instance
instance (a)(b)(c)(d):Le (@Fw V9 a b c d) (Fw a b c d):=by unfold Fw;infer_instance
instance (a)(b)(c)(d):Le (@X0 V9 a b c d) (X0 a b c d):=by unfold X0;infer_instance
instance (a)(b):Le (@X1 V9 a b) (X1 a b):=by unfold X1;infer_instance
instance (a):Le (@Ap V9 a) (Ap a):=by unfold Ap;infer_instance
instance (a)(b):Le (@Bs V9 a b) (Bs a b):=by unfold Bs;infer_instance
instance (a)(b)(c)(d):Le (@Bt V9 a b c d) (Bt a b c d):=by unfold Bt;infer_instance
instance (a)(b):Le (@Ij V9 a b) (Ij a b):=by unfold Ij;infer_instance
instance (a)(b):Le (@I0 V9 a b) (I0 a b):=by unfold I0;infer_instance
instance (a)(b):Le (@F6 V9 a b) (F6 a b):=by unfold F6;infer_instance
instance (a)(b):Le (@Y5 V9 a b) (Y5 a b):=by unfold Y5;infer_instance
instance (a)(b)(c):Le (@G3 V9 a b c) (G3 a b c):=by unfold G3;infer_instance
instance (a)(b):Le (@J1 V9 a b) (J1 a b):=by unfold J1;infer_instance
instance (a)(b):Le (@G4 V9 a b) (G4 a b):=by unfold G4;infer_instance
instance (a)(b)(c):Le (@Cf V9 a b c) (Cf a b c):=by unfold Cf;infer_instance
instance (a)(b)(c)(d):Le (@S6 V9 a b c d) (S6 a b c d):=by unfold S6;infer_instance
instance (a)(b)(c)(d):Le (@Kv V9 a b c d) (Kv a b c d):=by unfold Kv;infer_instance
instance (a)(b)(c)(d)(e):Le (@Kw V9 a b c d e) (Kw a b c d e):=by unfold Kw;infer_instance
instance (a)(b):Le (@Rh V9 a b) (Rh a b):=by unfold Rh;infer_instance
instance (a)(b)(c):Le (@G6 V9 a b c) (G6 a b c):=by unfold G6;infer_instance
instance (a)(b)(c):Le (@J3 V9 a b c) (J3 a b c):=by unfold J3;infer_instance
instance (a)(b):Le (@N0 V9 a b) (N0 a b):=by unfold N0;infer_instance
instance (a)(b)(c)(d):Le (@O0 V9 a b c d) (O0 a b c d):=by unfold O0;infer_instance
instance (a):Le (@O5 V9 a) (O5 a):=by unfold O5;infer_instance
instance (a)(b)(c):Le (@M3 V9 a b c) (M3 a b c):=by unfold M3;infer_instance
instance (a)(b):Le (@L9 V9 a b) (L9 a b):=by unfold L9;infer_instance
instance (a):Le (@N1 V9 a) (N1 a):=by unfold N1;infer_instance
instance (a)(b)(c):Le (@O1 V9 a b c) (O1 a b c):=by unfold O1;infer_instance
instance:Le (@O6 V9) (O6):=by unfold O6;infer_instance
instance (a)(b)(c)(d)(e):Le (@Ah V9 a b c d e) (Ah a b c d e):=by unfold Ah;infer_instance
instance (a)(b)(c)(d):Le (@Ai V9 a b c d) (Ai a b c d):=by unfold Ai;infer_instance
instance (a)(b)(c):Le (@My V9 a b c) (My a b c):=by unfold My;infer_instance
instance (a)(b)(c):Le (@Es V9 a b c) (Es a b c):=by unfold Es;infer_instance
instance (a)(b)(c)(d)(e):Le (@I3 V9 a b c d e) (I3 a b c d e):=by unfold I3;infer_instance
instance (a)(b)(c)(d)(e):Le (@H6 V9 a b c d e) (H6 a b c d e):=by unfold H6;infer_instance
instance (a)(b)(c)(d)(e):Le (@Hy V9 a b c d e) (Hy a b c d e):=by unfold Hy;infer_instance
instance (a)(b)(c)(d)(e):Le (@W7 V9 a b c d e) (W7 a b c d e):=by unfold W7;infer_instance
instance (a)(b)(c)(d):Le (@Fx V9 a b c d) (Fx a b c d):=by unfold Fx;infer_instance
instance (a)(b)(c)(d):Le (@Kh V9 a b c d) (Kh a b c d):=by unfold Kh;infer_instance
instance (a):Le (@Fy V9 a) (Fy a):=by unfold Fy;infer_instance
instance (a)(b)(c):Le (@S7 V9 a b c) (S7 a b c):=by unfold S7;infer_instance
instance (a)(b)(c):Le (@U0 V9 a b c) (U0 a b c):=by unfold U0;infer_instance
instance (a)(b)(c)(d)(e)(f)(g)(h):Le (@Aj V9 a b c d e f g h) (Aj a b c d e f g h):=by unfold Aj;infer_instance
instance (a)(b)(c)(d)(e)(f)(g)(h):Le (@Dz V9 a b c d e f g h) (Dz a b c d e f g h):=by unfold Dz;infer_instance
instance (a)(b)(c)(d)(e)(f)(g)(h)(i):Le (@Ak V9 a b c d e f g h i) (Ak a b c d e f g h i):=by unfold Ak;infer_instance
instance (a)(b)(c)(d)(e)(f)(g)(h):Le (@Fz V9 a b c d e f g h) (Fz a b c d e f g h):=by unfold Fz;infer_instance
instance (a)(b)(c)(d)(e)(f)(g)(h):Le (@Bu V9 a b c d e f g h) (Bu a b c d e f g h):=by unfold Bu;infer_instance
instance (a)(b)(c)(d)(e)(f):Le (@Ga V9 a b c d e f) (Ga a b c d e f):=by unfold Ga;infer_instance
instance (a)(b)(c)(d)(e)(f)(g)(h):Le (@Bv V9 a b c d e f g h) (Bv a b c d e f g h):=by unfold Bv;infer_instance
instance (a)(b)(c)(d)(e)(f):Le (@Bw V9 a b c d e f) (Bw a b c d e f):=by unfold Bw;infer_instance
instance (a)(b)(c)(d)(e):Le (@Gb V9 a b c d e) (Gb a b c d e):=by unfold Gb;infer_instance
instance (a)(b)(c)(d):Le (@Bx V9 a b c d) (Bx a b c d):=by unfold Bx;infer_instance
instance (a)(b)(c)(d):Le (@Gc V9 a b c d) (Gc a b c d):=by unfold Gc;infer_instance
instance (a)(b)(c):Le (@Ik V9 a b c) (Ik a b c):=by unfold Ik;infer_instance
instance law04_awake_le:Le (@Hz V9) (Hz):=by unfold Hz;infer_instance
theorem Je (n:Int): ∃y,Ft n=some (y,y*y==n)∧0≤y∧y≤67108864∧(∀m,0≤m→m<y→m*m<n)∧(y=67108864∨n≤y*y):=by
  have key:=RM (f:=Ls n) (fun x=>0≤x.1∧x.1≤x.2∧x.2≤67108864∧(∀m,0≤m→m<x.1→m*m<n)∧(x.2=67108864∨n≤x.2*x.2)) (fun x=>(x.2 - x.1).toNat)
    (fun y=>0≤y∧y≤67108864∧(∀m,0≤m→m<y→m*m<n)∧(y=67108864∨n≤y*y)) (by
      rintro ⟨lo,hi⟩ ⟨h1,h2,h3,h4,h5⟩
      dsimp only at h1 h2 h3 h4 h5
      unfold Ls
      dsimp only
      by_cases hlt:lo<hi
      ·have e1:D6 (lo+hi)=lo+hi:=F2 (by omega)
       have e2:D6 ((lo+hi).tdiv 2)=(lo+hi) / 2:=by rw [wP (by omega)];exact F2 (by omega)
       have hm:lo≤(lo+hi) / 2∧(lo+hi) / 2<hi:=by omega
       generalize hmid:(lo+hi) / 2=mid at*
       have hmm:mid*mid≤67108864*67108864:=XG (by omega) (by omega)
       have hmm0:=Rf mid
       have e3:D6 (mid*mid)=mid*mid:=F2 (by omega)
       have e4:D6 (mid+1)=mid+1:=F2 (by omega)
       simp only [e1,e2,e3,e4,hlt,decide_true,bO]
       by_cases hc:mid*mid<n
       ·simp only [hc,decide_true,bO]
        refine ⟨_,rfl,⟨by omega,by omega,h3,fun m hm0 hm1=> ?_,h5⟩,by dsimp only;omega⟩
        rcases Int.lt_or_le m mid with q|q
        ·have:=Int.mul_le_mul (show m≤mid by omega) (show m≤mid by omega) hm0 (by omega);omega
        ·have:m=mid:=by dsimp only at hm1;omega
         subst this;exact hc
       ·simp only [hc,decide_false,bP]
        exact ⟨_,rfl,⟨h1,by dsimp only;omega,by dsimp only;omega,h4, .inr (by dsimp only;omega)⟩,by dsimp only;omega⟩
      ·simp only [hlt,decide_false,bP]
       obtain rfl:lo=hi:=by omega
       exact ⟨_,rfl,h1,h3,h4,h5⟩) (0,67108864) ⟨by decide,by decide,by decide,fun m h1 h2=>by dsimp only at h2;omega, .inl rfl⟩
  obtain ⟨y,hy,h1,h2,h3,h4⟩:=key
  refine ⟨y,?_,h1,h2,h3,h4⟩
  have hmm:y*y≤67108864*67108864:=XG (by omega) (by omega)
  have hmm0:=Rf y
  unfold Ft
  rw [hy,lB,F2 (by omega)]
/-- The least number whose square is not less. -/
noncomputable def rt (n:Int):Int:=(Je n).choose
theorem BC (n:Int):Ft n=some (rt n,rt n*rt n==n):=(Je n).choose_spec.1
theorem FU (n:Int):0≤rt n:=(Je n).choose_spec.2.1
theorem nV (n m:Int)(h1:0≤m)(h2:m<rt n):m*m<n:=(Je n).choose_spec.2.2.2.1 m h1 h2
theorem nW (n:Int):rt n=67108864∨n≤rt n*rt n:=(Je n).choose_spec.2.2.2.2
theorem fH {l:Int}(h0:0≤l)(h1:l≤67108864):rt (l*l)=l:=by
  rcases Int.lt_trichotomy (rt (l*l)) l with q|q|q
  ·rcases nW (l*l)with h|h
   ·omega
   ·have h2:=FU (l*l)
    have:=Int.mul_lt_mul' (show rt (l*l)≤l by omega) q h2 (by omega);omega
  ·exact q
  ·have:=nV (l*l) l h0 q;omega
theorem HV (n:Int)(h0:0≤n)(h1:n<18014398509481984): ∃r,Kj n=some r∧0≤r∧r<134217728∧r*r≤n∧n< (r+1)* (r+1):=by
  have key:=RM (f:=Lv n) (fun x=>0≤x.1∧x.1*x.1≤n∧((∃k:Nat,k≤26∧x.2=2^k∧x.1+2*2^k≤134217728∧n< (x.1+2*2^k)* (x.1+2*2^k))∨(x.2=0∧x.1<134217728∧n< (x.1+1)* (x.1+1)))) (fun x=>x.2.toNat)
    (fun r=>0≤r∧r<134217728∧r*r≤n∧n< (r+1)* (r+1)) (by
      rintro ⟨r,bit⟩ ⟨q1,q2,q3⟩
      dsimp only at q1 q2 q3
      unfold Lv
      dsimp only
      rcases q3 with ⟨k,hk,rfl,q4,q5⟩|⟨rfl,q4,q5⟩
      ·have hp:(0:Int)<2^k:=Int.pow_pos (by decide)
       generalize hb:(2:Int)^k=b at*
       have e1:D6 (r+b)=r+b:=F2 (by omega)
       have hmm:(r+b)* (r+b)≤134217728*134217728:=XG (by omega) (by omega)
       have hmm0:=Rf (r+b)
       have e2:D6 ((r+b)* (r+b))=(r+b)* (r+b):=F2 (by omega)
       have e3:D6 (b.tdiv 2)=b / 2:=by rw [wP (by omega)];exact F2 (by omega)
       have hb0:b>0:=by omega
       simp only [e1,e2,e3,hb0,decide_true,bO]
       have hnext: ∀r',0≤r'→r'*r'≤n→r'+b≤134217728→n< (r'+b)* (r'+b)→(∃j:Nat,j≤26∧b / 2=2^j∧r'+2*2^j≤134217728∧n< (r'+2*2^j)* (r'+2*2^j))∨(b / 2=0∧r'<134217728∧n< (r'+1)* (r'+1)):=by
         intro r' a1 a2 a3 a4
         cases k with
         |zero=>
          have:b=1:=by rw [← hb];rfl
          subst this
          exact .inr ⟨by decide,by omega,a4⟩
         |succ j=>
          have hj:b=2*2^j:=by rw [← hb,Int.pow_succ];omega
          refine .inl ⟨j,by omega,by omega,by omega,by rw [← hj];exact a4⟩
       by_cases hc:(r+b)* (r+b)≤n
       ·simp only [hc,decide_true,bO]
        refine ⟨_,rfl,⟨by dsimp only;omega,hc,hnext (r+b) (by omega) hc (by omega) (by rw [show r+b+b=r+2*b by omega];exact q5)⟩,by dsimp only;omega⟩
       ·simp only [hc,decide_false,bP]
        exact ⟨_,rfl,⟨q1,q2,hnext r q1 q2 (by omega) (by omega)⟩,by dsimp only;omega⟩
      ·simp only [show ¬(0:Int)>0 by decide,decide_false,bP]
       exact ⟨_,rfl,q1,q4,q2,q5⟩) (0,67108864) ⟨by decide,by dsimp only;omega, .inl ⟨26,by decide,by decide,by decide,by dsimp only;omega⟩⟩
  obtain ⟨r,hr,a⟩:=key
  exact ⟨r,by unfold Kj;rw [hr];rfl,a⟩
theorem ME {n:Int}(h0:0≤n)(h1:n≤4503599627370496): ∃r,Kj n=some r∧0≤r∧r<134217728∧(r*r=n↔rt n*rt n=n)∧(r*r=n→r=rt n):=by
  obtain ⟨r,hr,a1,a2,a3,a4⟩:=HV n h0 (by omega)
  have hr26:r≤67108864:=by
    rcases Int.lt_or_le r 67108865 with q|q
    ·omega
    ·have:=Int.mul_le_mul q q (by decide) (by omega);omega
  refine ⟨r,hr,a1,a2,⟨fun h=> ?_,fun h=> ?_⟩,fun h=> ?_⟩
  ·rw [← h,fH a1 hr26]
  ·rcases Int.lt_trichotomy r (rt n)with q|q|q
   ·have:=Int.mul_le_mul (show r+1≤rt n by omega) (show r+1≤rt n by omega) (by omega) (FU n);omega
   ·rw [q];exact h
   ·have h2:=FU n
    have:=Int.mul_lt_mul' (show rt n≤r by omega) q h2 (by omega);omega
  ·rw [← h,fH a1 hr26]
def Vz (p:Spot):Bool:=decide (-16777216≤p.X)&&decide (p.X≤16777216)&&decide (-16777216≤p.Y)&&decide (p.Y≤16777216)
theorem okS_iff {p:Spot}:Vz p=true↔ -16777216≤p.X∧p.X≤16777216∧ -16777216≤p.Y∧p.Y≤16777216:=by simp [Vz,and_assoc]
theorem ZO (p:Spot):((decide ((Mi false p.X p.Y)< (-16777216)))||(decide ((Mi true p.X p.Y)>16777216)))= !Vz p:=by
  rw [Db,Mb]
  cases h:Vz p with
  |true=>have:=okS_iff.1 h;simp;omega
  |false=>
   have: ¬(-16777216≤p.X∧p.X≤16777216∧ -16777216≤p.Y∧p.Y≤16777216):=fun q=>by rw [okS_iff.2 q]at h;cases h
   simp;omega
theorem MF (l:List Spot)(hl:l.length≤1000000): ∀(r:List Spot) (i:Nat),l.drop i=r→loop (Fs l) (i:Int)=some (if r.all Vz then .inl ()else .inr false):=by
  intro r
  induction r with
  |nil=>
   intro i hi
   have:=N8 hi
   refine C5 ?_
   unfold Fs
   simp only [show ¬(i:Int)<l.length by omega,decide_false,bP,List.all_nil,if_true]
  |cons p r ih=>
   intro i hi
   have hlt:=M9 hi
   have hstep:Fs l (i:Int)=if Vz p then some (.go ((i+1:Nat):Int))else some (.out (.inr false)):=by
     unfold Fs
     simp only [show (i:Int)<l.length by omega,decide_true,bO,Cj hi,lB,ZO]
     cases h:Vz p with
     |true=>simp only [bW,bP,if_true];rw [F2 (by omega)];rfl
     |false=>simp
   cases h:Vz p with
   |true=>
    rw [h,bQ rfl]at hstep
    rw [J2 hstep,ih (i+1) (K5 hi)]
    simp [h]
   |false=>
    rw [h]at hstep
    rw [C5 hstep]
    simp [h]
theorem MG (l:List Spot)(hl:l.length≤1000000):Kb l=some (l.all Vz):=by
  unfold Kb
  have:=MF l hl l 0 (by simp)
  rw [show ((0:Nat):Int)=0 from rfl]at this
  rw [this]
  cases l.all Vz<;>rfl
theorem KI (p:Spot):Px p=some (Vz p):=by
  unfold Px Vz;rfl
def R5 (p q:Spot):CurveVector:=⟨q.X - p.X,q.Y - p.Y⟩
def N3 (v w:CurveVector):Int:=v.x*w.x+v.y*w.y
/-- A vector between valid spots. -/
def aZ (v:CurveVector):Prop:= -33554432≤v.x∧v.x≤33554432∧ -33554432≤v.y∧v.y≤33554432
theorem EJ {p q:Spot}(hp:Vz p=true)(hq:Vz q=true):aZ (R5 p q):=by
  have:=okS_iff.1 hp;have:=okS_iff.1 hq
  unfold aZ R5;dsimp only;omega
theorem BD {p q:Spot}(hp:Vz p=true)(hq:Vz q=true):Ou p q=some (R5 p q):=by
  have:=okS_iff.1 hp;have:=okS_iff.1 hq
  unfold Ou R5
  rw [F2 (by omega),F2 (by omega)]
theorem VL {v w:CurveVector}(hv:aZ v)(hw:aZ w): -2251799813685248≤N3 v w∧N3 v w≤2251799813685248∧(-1125899906842624≤v.x*w.x∧v.x*w.x≤1125899906842624)∧ -1125899906842624≤v.y*w.y∧v.y*w.y≤1125899906842624:=by
  obtain ⟨a1,a2,a3,a4⟩:=hv
  obtain ⟨b1,b2,b3,b4⟩:=hw
  have h1:=eQ ⟨a1,a2⟩ ⟨b1,b2⟩
  have h2:=eQ ⟨a3,a4⟩ ⟨b3,b4⟩
  unfold N3
  omega
theorem Wa {v w:CurveVector}(hv:aZ v)(hw:aZ w):Be v w=some (N3 v w):=by
  have h:=VL hv hw
  unfold Be
  rw [F2 (n:=v.x*w.x) (by omega),F2 (n:=v.y*w.y) (by omega),F2 (by unfold N3 at h;omega)]
  rfl
theorem VM (v:CurveVector):0≤N3 v v:=by have:=Rf v.x;have:=Rf v.y;unfold N3;omega
def vs (v:CurveVector):Spot:=⟨v.x,v.y⟩
theorem Sl {p q:Spot}(hp:Vz p=true)(hq:Vz q=true):Ki q p=some (vs (R5 p q)):=by
  have:=okS_iff.1 hp;have:=okS_iff.1 hq
  unfold Ki R5 vs
  rw [F2 (by omega),F2 (by omega)]
theorem Wb {v w:CurveVector}(hv:aZ v)(hw:aZ w):Mz (vs v) (vs w)=some (N3 v w):=by
  have h:=VL hv hw
  unfold Mz vs
  dsimp only
  rw [F2 (n:=v.x*w.x) (by omega),F2 (n:=v.y*w.y) (by omega),F2 (by unfold N3 at h;omega)]
  rfl
/-- The error of a chain of points, from a piece on; the piece ahead of it. -/
noncomputable def SI:Option CurveVector→List Spot→Int
  |last,p::q::r=>
   if rt (N3 (R5 p q) (R5 p q))*rt (N3 (R5 p q) (R5 p q))≠N3 (R5 p q) (R5 p q)then 3
   else if rt (N3 (R5 p q) (R5 p q))<1000∨rt (N3 (R5 p q) (R5 p q))>1048576 then 2
   else match last with
     |some u=>if N3 u (R5 p q)≤0 then 12 else SI (some (R5 p q)) (q::r)
     |none=>SI (some (R5 p q)) (q::r)
  |_,_=>0
theorem EK (last:Option CurveVector)(p q:Spot)(r:List Spot):SI last (p::q::r)=
    if rt (N3 (R5 p q) (R5 p q))*rt (N3 (R5 p q) (R5 p q))≠N3 (R5 p q) (R5 p q)then 3
    else if rt (N3 (R5 p q) (R5 p q))<1000∨rt (N3 (R5 p q) (R5 p q))>1048576 then 2
    else match last with
      |some u=>if N3 u (R5 p q)≤0 then 12 else SI (some (R5 p q)) (q::r)
      |none=>SI (some (R5 p q)) (q::r):=by
  conv=>lhs;unfold SI
noncomputable def Cw (l:List Spot):Int:=if l.length<2 then 6 else if l.length>16 then 5 else if l.all Vz then SI none l else 2
theorem KJ (c:Curve)(hl:c.Pts.length≤1000000)(hok:c.Pts.all Vz=true): ∀(r:List Spot) (p:Spot) (i:Nat) (last:CurveVector),c.Pts.drop i=p::r→aZ last→
    loop (X9 c) ((i:Int),last)=some (if SI (if i=0 then none else some last) (p::r)=0 then .inl ()else .inr (SI (if i=0 then none else some last) (p::r))):=by
  intro r
  induction r with
  |nil=>
   intro p i last hi hlast
   have hlt:=M9 hi
   have:=N8 (K5 hi)
   refine C5 ?_
   unfold X9
   dsimp only
   rw [F2 (n:=(c.Pts.length:Int) - 1) (by omega)]
   simp only [show ¬(i:Int)< (c.Pts.length:Int) - 1 by omega,decide_false,bP,SI,if_true]
  |cons q r ih=>
   intro p i last hi hlast
   have hlt:=M9 hi
   have hi1:=K5 hi
   have hlt1:=M9 hi1
   have hp:Vz p=true:=lY.1 hok p (List.mem_of_mem_drop (i:=i) (by rw [hi];simp))
   have hq:Vz q=true:=lY.1 hok q (List.mem_of_mem_drop (i:=i) (by rw [hi];simp))
   have hv:=EJ hp hq
   have hg1:C0 c.Pts ((i:Int)+1)=some q:=by have:=Cj hi1;simpa using this
   have hstep:X9 c ((i:Int),last)=
    if rt (N3 (R5 p q) (R5 p q))*rt (N3 (R5 p q) (R5 p q))≠N3 (R5 p q) (R5 p q)then some (.out (.inr 3))
    else if rt (N3 (R5 p q) (R5 p q))<1000∨rt (N3 (R5 p q) (R5 p q))>1048576 then some (.out (.inr 2))
    else if i≠0∧N3 last (R5 p q)≤0 then some (.out (.inr 12))else some (.go (((i+1:Nat):Int),R5 p q)):=by
     unfold X9
     dsimp only
     rw [F2 (n:=(c.Pts.length:Int) - 1) (by omega),F2 (n:=(i:Int)+1) (by omega)]
     simp only [show (i:Int)< (c.Pts.length:Int) - 1 by omega,decide_true,bO,Cj hi,hg1,lB,BD hp hq,Wa hv hv,BC]
     by_cases h1:rt (N3 (R5 p q) (R5 p q))*rt (N3 (R5 p q) (R5 p q))=N3 (R5 p q) (R5 p q)
     ·simp only [h1,beq_self_eq_true,bW,bP,ne_eq,not_true_eq_false,if_false]
      by_cases h2:rt (N3 (R5 p q) (R5 p q))<1000∨rt (N3 (R5 p q) (R5 p q))>1048576
      ·rw [bQ h2]
       have:(decide (rt (N3 (R5 p q) (R5 p q))<1000)||decide (rt (N3 (R5 p q) (R5 p q))>1048576))=true:=by simpa using h2
       rw [this];rfl
      ·rw [bR h2]
       have:(decide (rt (N3 (R5 p q) (R5 p q))<1000)||decide (rt (N3 (R5 p q) (R5 p q))>1048576))=false:=by simpa using h2
       rw [this]
       simp only [bP]
       by_cases h3:i=0
       ·subst h3
        simp only [Int.natCast_zero,gt_iff_lt,Int.lt_irrefl,decide_false,bP,bT,lB,not_true_eq_false,false_and,if_false]
        rfl
       ·have h4:(i:Int)>0:=by omega
        simp only [h4,decide_true,bO,Wa hlast hv,lB,bS,h3,not_false_eq_true,true_and]
        by_cases h5:N3 last (R5 p q)≤0<;>simp [h5]
     ·have:(rt (N3 (R5 p q) (R5 p q))*rt (N3 (R5 p q) (R5 p q))==N3 (R5 p q) (R5 p q))=false:=by simpa using h1
      simp only [this,bX,bO,ne_eq,h1,not_false_eq_true,if_true]
   rw [EK]
   by_cases h1:rt (N3 (R5 p q) (R5 p q))*rt (N3 (R5 p q) (R5 p q))≠N3 (R5 p q) (R5 p q)
   ·rw [bQ h1]at hstep
    rw [C5 hstep,bQ h1];rfl
   ·rw [bR h1]at hstep ⊢
    by_cases h2:rt (N3 (R5 p q) (R5 p q))<1000∨rt (N3 (R5 p q) (R5 p q))>1048576
    ·rw [bQ h2]at hstep
     rw [C5 hstep,bQ h2];rfl
    ·rw [bR h2]at hstep ⊢
     by_cases h3:i=0
     ·subst h3
      rw [bR (by simp)]at hstep
      rw [J2 hstep,ih q (0+1) (R5 p q) hi1 hv]
      simp
     ·by_cases h5:N3 last (R5 p q)≤0
      ·rw [bQ ⟨h3,h5⟩]at hstep
       rw [C5 hstep]
       simp [h3,h5]
      ·rw [bR (fun h=>h5 h.2)]at hstep
       rw [J2 hstep,ih q (i+1) (R5 p q) hi1 hv]
       simp [h3,h5]
theorem Yy (c:Curve)(hl:c.Pts.length≤1000000):Fa c=some (Cw c.Pts):=by
  unfold Fa Cw
  by_cases h1:c.Pts.length<2
  ·rw [bQ h1,show decide ((c.Pts.length:Int)<2)=true by simp;omega];rfl
  ·rw [bR h1,show decide ((c.Pts.length:Int)<2)=false by simp;omega]
   simp only [bP]
   by_cases h2:c.Pts.length>16
   ·rw [bQ h2,show decide ((c.Pts.length:Int)>16)=true by simp;omega];rfl
   ·rw [bR h2,show decide ((c.Pts.length:Int)>16)=false by simp;omega]
    simp only [bP,MG c.Pts hl,lB]
    cases h3:c.Pts.all Vz with
    |false=>rfl
    |true=>
     simp only [bW,bP,if_true]
     cases hp:c.Pts with
     |nil=>rw [hp]at h1;simp at h1
     |cons p r=>
      have:=KJ c hl h3 r p 0 ⟨0,0⟩ (by rw [hp];rfl) ⟨by decide,by decide,by decide,by decide⟩
      rw [bQ rfl,show ((0:Nat):Int)=0 from rfl]at this
      rw [this]
      by_cases h4:SI none (p::r)=0
      ·rw [bQ h4,h4];rfl
      ·rw [bR h4];rfl
theorem ZP (v w:CurveVector):N3 v w=N3 w v:=by unfold N3;rw [Int.mul_comm v.x,Int.mul_comm v.y]
theorem HW (c:Curve)(hl:c.Pts.length≤1000000): ∀(r:List Spot) (i:Nat),c.Pts.drop i=r→loop (Eb c) (i:Int)=some (if r.all Vz then .inl ()else .inr 2):=by
  intro r
  induction r with
  |nil=>
   intro i hi
   have:=N8 hi
   refine C5 ?_
   unfold Eb
   simp only [show ¬(i:Int)<c.Pts.length by omega,decide_false,bP,List.all_nil,if_true]
  |cons p r ih=>
   intro i hi
   have hlt:=M9 hi
   have hstep:Eb c (i:Int)=if Vz p then some (.go ((i+1:Nat):Int))else some (.out (.inr 2)):=by
     unfold Eb
     simp only [show (i:Int)<c.Pts.length by omega,decide_true,bO,Cj hi,lB,KI]
     cases h:Vz p with
     |true=>simp only [bW,bP,if_true];rw [F2 (by omega)];rfl
     |false=>simp
   cases h:Vz p with
   |true=>
    rw [h,bQ rfl]at hstep
    rw [J2 hstep,ih (i+1) (K5 hi)]
    simp [h]
   |false=>
    rw [h]at hstep
    rw [C5 hstep]
    simp [h]
theorem fI {v:CurveVector}(hv:aZ v): ∃l,Kj (N3 v v)=some l∧(D6 (l*l) !=N3 v v)= !(rt (N3 v v)*rt (N3 v v)==N3 v v)∧(rt (N3 v v)*rt (N3 v v)=N3 v v→l=rt (N3 v v)):=by
  have hb:=VL hv hv
  obtain ⟨l,h1,h2,h3,h4,h5⟩:=ME (VM v) (by omega)
  have hmm:l*l≤134217728*134217728:=XG (by omega) (by omega)
  have hmm0:=Rf l
  refine ⟨l,h1,?_,fun h=>h5 (h4.2 h)⟩
  rw [F2 (by omega)]
  by_cases h:l*l=N3 v v
  ·simp [h,h4.1 h]
  ·have h': ¬rt (N3 v v)*rt (N3 v v)=N3 v v:=fun q=>h (h4.2 q)
   have e1:(l*l !=N3 v v)=true:=bne_iff_ne.2 h
   have e2:(rt (N3 v v)*rt (N3 v v)==N3 v v)=false:=beq_eq_false_iff_ne.2 h'
   rw [e1,e2];rfl
theorem HX (c:Curve)(hl:c.Pts.length≤1000000)(hok:c.Pts.all Vz=true): ∀(r:List Spot) (p:Spot) (i:Nat) (last:Option CurveVector),c.Pts.drop i=p::r→
    (i=0∧last=none∨∃j a,i=j+1∧c.Pts.drop j=a::p::r∧last=some (R5 a p))→
    loop (Ea c) (i:Int)=some (if SI last (p::r)=0 then .inl ()else .inr (SI last (p::r))):=by
  intro r
  induction r with
  |nil=>
   intro p i last hi hlast
   have hlt:=M9 hi
   have:=N8 (K5 hi)
   refine C5 ?_
   unfold Ea
   rw [F2 (n:=(i:Int)+1) (by omega)]
   simp only [show ¬(i:Int)+1< (c.Pts.length:Int) by omega,decide_false,bP,SI,if_true]
  |cons q r ih=>
   intro p i last hi hlast
   have hlt:=M9 hi
   have hi1:=K5 hi
   have hlt1:=M9 hi1
   have hp:Vz p=true:=lY.1 hok p (List.mem_of_mem_drop (i:=i) (by rw [hi];simp))
   have hq:Vz q=true:=lY.1 hok q (List.mem_of_mem_drop (i:=i) (by rw [hi];simp))
   have hv:=EJ hp hq
   have hg1:C0 c.Pts ((i:Int)+1)=some q:=by have:=Cj hi1;simpa using this
   obtain ⟨l,hl1,hl2,hl3⟩:=fI hv
   have hstep:Ea c (i:Int)=
    if rt (N3 (R5 p q) (R5 p q))*rt (N3 (R5 p q) (R5 p q))≠N3 (R5 p q) (R5 p q)then some (.out (.inr 3))
    else if rt (N3 (R5 p q) (R5 p q))<1000∨rt (N3 (R5 p q) (R5 p q))>1048576 then some (.out (.inr 2))
    else match last with
      |some u=>if N3 u (R5 p q)≤0 then some (.out (.inr 12))else some (.go ((i+1:Nat):Int))
      |none=>some (.go ((i+1:Nat):Int)):=by
     unfold Ea
     rw [F2 (n:=(i:Int)+1) (by omega)]
     simp only [show (i:Int)+1< (c.Pts.length:Int) by omega,decide_true,bO,Cj hi,hg1,lB,Sl hp hq,Wb hv hv,hl1,hl2]
     by_cases h1:rt (N3 (R5 p q) (R5 p q))*rt (N3 (R5 p q) (R5 p q))=N3 (R5 p q) (R5 p q)
     ·simp only [h1,beq_self_eq_true,bW,bP,ne_eq,not_true_eq_false,if_false,hl3 h1]
      by_cases h2:rt (N3 (R5 p q) (R5 p q))<1000∨rt (N3 (R5 p q) (R5 p q))>1048576
      ·rw [bQ h2]
       have:(decide (rt (N3 (R5 p q) (R5 p q))<1000)||decide (rt (N3 (R5 p q) (R5 p q))>1048576))=true:=by simpa using h2
       rw [this];rfl
      ·rw [bR h2]
       have:(decide (rt (N3 (R5 p q) (R5 p q))<1000)||decide (rt (N3 (R5 p q) (R5 p q))>1048576))=false:=by simpa using h2
       rw [this]
       simp only [bP]
       rcases hlast with ⟨rfl,rfl⟩|⟨j,a,rfl,hj,rfl⟩
       ·simp only [Int.natCast_zero,gt_iff_lt,Int.lt_irrefl,decide_false,bP,bT,lB]
        rfl
       ·have h4:(((j+1:Nat):Int))>0:=by omega
        have ha:Vz a=true:=lY.1 hok a (List.mem_of_mem_drop (i:=j) (by rw [hj];simp))
        have hva:=EJ ha hp
        have hgj:C0 c.Pts (D6 (((j+1:Nat):Int) - 1))=some a:=by
          rw [F2 (by omega),show (((j+1:Nat):Int) - 1)=(j:Int) by omega]
          exact Cj hj
        simp only [h4,decide_true,bO,hgj,lB,Sl ha hp,Wb hv hva,bS]
        rw [ZP (R5 p q) (R5 a p)]
        by_cases h5:N3 (R5 a p) (R5 p q)≤0
        ·simp [h5]
        ·simp [h5]
     ·have:(rt (N3 (R5 p q) (R5 p q))*rt (N3 (R5 p q) (R5 p q))==N3 (R5 p q) (R5 p q))=false:=by simpa using h1
      simp only [this,bX,bO,ne_eq,h1,not_false_eq_true,if_true]
   rw [EK]
   have hrec:=ih q (i+1) (some (R5 p q)) hi1 (.inr ⟨i,p,rfl,hi,rfl⟩)
   by_cases h1:rt (N3 (R5 p q) (R5 p q))*rt (N3 (R5 p q) (R5 p q))≠N3 (R5 p q) (R5 p q)
   ·rw [bQ h1]at hstep
    rw [C5 hstep,bQ h1];rfl
   ·rw [bR h1]at hstep ⊢
    by_cases h2:rt (N3 (R5 p q) (R5 p q))<1000∨rt (N3 (R5 p q) (R5 p q))>1048576
    ·rw [bQ h2]at hstep
     rw [C5 hstep,bQ h2];rfl
    ·rw [bR h2]at hstep ⊢
     cases last with
     |none=>rw [J2 hstep,hrec]
     |some u=>
      dsimp only at hstep ⊢
      by_cases h5:N3 u (R5 p q)≤0
      ·rw [bQ h5]at hstep
       rw [C5 hstep];simp [h5]
      ·rw [bR h5]at hstep
       rw [J2 hstep,hrec];simp [h5]
theorem Yz (c:Curve)(hl:c.Pts.length≤1000000):Na c=some (Cw c.Pts):=by
  unfold Na Cw
  by_cases h1:c.Pts.length<2
  ·rw [bQ h1,show decide ((c.Pts.length:Int)<2)=true by simp;omega];rfl
  ·rw [bR h1,show decide ((c.Pts.length:Int)<2)=false by simp;omega]
   simp only [bP]
   by_cases h2:c.Pts.length>16
   ·rw [bQ h2,show decide ((c.Pts.length:Int)>16)=true by simp;omega];rfl
   ·rw [bR h2,show decide ((c.Pts.length:Int)>16)=false by simp;omega]
    have hg:=HW c hl c.Pts 0 (by simp)
    rw [show ((0:Nat):Int)=0 from rfl]at hg
    simp only [bP,hg]
    cases h3:c.Pts.all Vz with
    |false=>rfl
    |true=>
     simp only [if_true,thenS]
     cases hp:c.Pts with
     |nil=>rw [hp]at h1;simp at h1
     |cons p r=>
      have:=HX c hl h3 r p 0 none (by rw [hp];rfl) (.inl ⟨rfl,rfl⟩)
      rw [show ((0:Nat):Int)=0 from rfl]at this
      rw [this]
      by_cases h4:SI none (p::r)=0
      ·rw [bQ h4,h4]
      ·rw [bR h4]
/-- What a valid chain is. -/
inductive Good:Option CurveVector→List Spot→Prop
  |one (last:Option CurveVector) (p:Spot):Good last [p]
  |cons (last:Option CurveVector) (p q:Spot) (r:List Spot) (h1:rt (N3 (R5 p q) (R5 p q))*rt (N3 (R5 p q) (R5 p q))=N3 (R5 p q) (R5 p q)) (h2:1000≤rt (N3 (R5 p q) (R5 p q))) (h3:rt (N3 (R5 p q) (R5 p q))≤1048576)
     (h4: ∀u,last=some u→0<N3 u (R5 p q)) (h:Good (some (R5 p q)) (q::r)):Good last (p::q::r)
theorem SJ: ∀(r:List Spot) (p:Spot) (last:Option CurveVector),SI last (p::r)=0→Good last (p::r):=by
  intro r
  induction r with
  |nil=>intro p last _;exact .one _ _
  |cons q r ih=>
   intro p last h
   rw [EK]at h
   split at h
   ·cases h
   ·rename_i h1
    split at h
    ·cases h
    ·rename_i h2
     have h1:rt (N3 (R5 p q) (R5 p q))*rt (N3 (R5 p q) (R5 p q))=N3 (R5 p q) (R5 p q):=by simpa using h1
     cases last with
     |none=>exact .cons _ _ _ _ h1 (by omega) (by omega) (fun u hu=>by cases hu) (ih q _ h)
     |some u=>
      dsimp only at h
      split at h
      ·cases h
      ·exact .cons _ _ _ _ h1 (by omega) (by omega) (fun u' hu=>by cases hu;omega) (ih q _ h)
theorem SK {last:Option CurveVector}{l:List Spot}(h:Good last l):SI last l=0:=by
  induction h with
  |one=>rfl
  |cons last p q r h1 h2 h3 h4 h ih=>
   rw [EK,bR (by simpa using h1),bR (by omega)]
   cases last with
   |none=>exact ih
   |some u=>dsimp only;rw [bR (by have:=h4 u rfl;omega)];exact ih
structure Valid (l:List Spot):Prop where
  two:2≤l.length
  most:l.length≤16
  ok:l.all Vz=true
  good:Good none l
theorem checkM_zero {l:List Spot}:Cw l=0↔Valid l:=by
  unfold Cw
  constructor
  ·intro h
   split at h
   ·cases h
   ·rename_i h1
    split at h
    ·cases h
    ·rename_i h2
     split at h
     ·rename_i h3
      cases l with
      |nil=>simp at h1
      |cons p r=>exact ⟨by omega,by omega,h3,SJ r p none h⟩
     ·cases h
  ·rintro ⟨h1,h2,h3,h4⟩
   rw [bR (by omega),bR (by omega),bQ h3]
   exact SK h4
/-- The pieces of a chain: the number, the piece. -/
noncomputable def Wc:Nat→Int→List Spot→List (Int×CurvePiece)
  |i,s,p::q::r=>((i:Int),⟨p,R5 p q,rt (N3 (R5 p q) (R5 p q)),s⟩)::Wc (i+1) (D6 (s+rt (N3 (R5 p q) (R5 p q)))) (q::r)
  |_,_,_=> []
theorem EL (i:Nat)(s:Int)(p q:Spot)(r:List Spot):Wc i s (p::q::r)=((i:Int),⟨p,R5 p q,rt (N3 (R5 p q) (R5 p q)),s⟩)::Wc (i+1) (D6 (s+rt (N3 (R5 p q) (R5 p q)))) (q::r):=by conv=>lhs;unfold Wc
theorem SL (pts:List Spot)(hok:pts.all Vz=true): ∀(r:List Spot) (p:Spot) (i:Nat) (s:Int),pts.drop i=p::r→Ix pts r.length i s=some (Wc i s (p::r)):=by
  intro r
  induction r with
  |nil=>intro p i s _;rfl
  |cons q r ih=>
   intro p i s hi
   have hi1:=K5 hi
   have hp:Vz p=true:=lY.1 hok p (List.mem_of_mem_drop (i:=i) (by rw [hi];simp))
   have hq:Vz q=true:=lY.1 hok q (List.mem_of_mem_drop (i:=i) (by rw [hi];simp))
   have hv:=EJ hp hq
   have h0:pts[i]? =some p:=by have:=congrArg (fun z=>z[0]?) hi;simpa using this
   have h1:pts[i+1]? =some q:=by have:=congrArg (fun z=>z[0]?) hi1;simpa using this
   rw [lL,Ix,h0,h1]
   simp only [lB,BD hp hq,Wa hv hv,BC]
   rw [ih q (i+1) _ hi1,EL]
   rfl
theorem VN {pts:List Spot}(h:Valid pts):Th pts=some (Wc 0 0 pts):=by
  unfold Th
  have:=h.most
  rw [bQ (by omega)]
  cases hp:pts with
  |nil=>have:=h.two;rw [hp]at this;simp at this
  |cons p r=>exact SL (p::r) (by rw [← hp];exact h.ok) r p 0 0 rfl
/-- The lengths. -/
noncomputable def AF:List Spot→List Int
  |p::q::r=>rt (N3 (R5 p q) (R5 p q))::AF (q::r)
  |_=> []
theorem Uq (p q:Spot)(r:List Spot):AF (p::q::r)=rt (N3 (R5 p q) (R5 p q))::AF (q::r):=by conv=>lhs;unfold AF
theorem Tj: ∀(r:List Spot) (p:Spot),(AF (p::r)).length=r.length
  | [],_=>rfl
  |q::r,p=>by rw [Uq,lL,Tj r q,lL]
theorem EM: ∀(r:List Spot) (p:Spot) (i:Nat) (s:Int),(Wc i s (p::r)).map (·.2.l)=AF (p::r)
  | [],_,_,_=>rfl
  |q::r,p,i,s=>by rw [EL,Uq,lR,EM r q]
theorem SM: ∀(L:List (Int×CurvePiece)) (out:List Int),out.length+L.length≤1000000000→loopL Er (fun x=>x) L out=some (out++L.map (·.2.l)):=by
  intro L
  induction L with
  |nil=>intro out _;simp [loopL]
  |cons a L ih=>
   intro out h
   simp only [lL]at h
   have:Er out a=some (.go (out++ [a.2.l])):=by
     unfold Er
     rw [Ey (by simp;omega)];rfl
   rw [loopL,this]
   dsimp only
   rw [ih _ (by simp;omega)]
   simp
theorem HY (c:Curve)(hl:c.Pts.length≤1000000):Fb c=some (if Cw c.Pts=0 then AF c.Pts else []):=by
  unfold Fb
  rw [Yy c hl,lB]
  by_cases h:Cw c.Pts=0
  ·rw [bQ h,h]
   have hv:=checkM_zero.1 h
   have:=hv.most
   simp only [bne_self_eq_false,bP,VN hv,lB]
   cases hp:c.Pts with
   |nil=>have:=hv.two;rw [hp]at this;simp at this
   |cons p r=>
    have e:=EM r p 0 0
    rw [SM _ _ (by
     have:=congrArg List.length e
     rw [lS,Tj]at this
     rw [this];rw [hp]at hl;simp at hl ⊢;omega)]
    rw [e];rfl
  ·rw [bR h,show (Cw c.Pts !=0)=true from bne_iff_ne.2 h];rfl
theorem EN (c:Curve)(hl:c.Pts.length≤1000000)(hok:c.Pts.all Vz=true): ∀(r:List Spot) (p:Spot) (i:Nat) (out:List Int) (last:Option CurveVector),c.Pts.drop i=p::r→Good last (p::r)→out.length+r.length≤1000000→
    loop (Cu c) (out,(i:Int))=some (out++AF (p::r)):=by
  intro r
  induction r with
  |nil=>
   intro p i out last hi _ _
   have hlt:=M9 hi
   have:=N8 (K5 hi)
   refine C5 ?_
   unfold Cu
   dsimp only
   rw [F2 (n:=(i:Int)+1) (by omega)]
   simp only [show ¬(i:Int)+1< (c.Pts.length:Int) by omega,decide_false,bP,AF,lP]
  |cons q r ih=>
   intro p i out last hi hg ho
   have hlt:=M9 hi
   have hi1:=K5 hi
   have hlt1:=M9 hi1
   have hp:Vz p=true:=lY.1 hok p (List.mem_of_mem_drop (i:=i) (by rw [hi];simp))
   have hq:Vz q=true:=lY.1 hok q (List.mem_of_mem_drop (i:=i) (by rw [hi];simp))
   have hv:=EJ hp hq
   have hg1:C0 c.Pts ((i:Int)+1)=some q:=by have:=Cj hi1;simpa using this
   obtain ⟨l,hl1,hl2,hl3⟩:=fI hv
   cases hg with
   |cons _ _ _ _ h1 h2 h3 h4 hg=>
    have hll:=hl3 h1
    subst hll
    simp only [lL]at ho
    have hstep:Cu c (out,(i:Int))=some (.go (out++ [rt (N3 (R5 p q) (R5 p q))],((i+1:Nat):Int))):=by
      unfold Cu
      dsimp only
      rw [F2 (n:=(i:Int)+1) (by omega)]
      simp only [show (i:Int)+1< (c.Pts.length:Int) by omega,decide_true,bO,Cj hi,hg1,lB,Sl hp hq,Wb hv hv,hl1]
      rw [Ey (by simp;omega)]
      rfl
    rw [J2 hstep,ih q (i+1) _ _ hi1 hg (by simp;omega),Uq]
    simp
theorem HZ (c:Curve)(hl:c.Pts.length≤1000000):Ny c=some (if Cw c.Pts=0 then AF c.Pts else []):=by
  unfold Ny
  rw [Yz c hl,lB]
  by_cases h:Cw c.Pts=0
  ·rw [bQ h,h]
   have hv:=checkM_zero.1 h
   simp only [bne_self_eq_false,bP]
   cases hp:c.Pts with
   |nil=>have:=hv.two;rw [hp]at this;simp at this
   |cons p r=>
    have:=EN c hl hv.ok r p 0 [] none (by rw [hp];rfl) (by rw [← hp];exact hv.good) (by rw [hp]at hl;simp at hl ⊢;omega)
    rw [show ((0:Nat):Int)=0 from rfl]at this
    rw [this];rfl
  ·rw [bR h,show (Cw c.Pts !=0)=true from bne_iff_ne.2 h];rfl
/-- A sum, as the programs take it. -/
def CK:Int→List Int→Int
  |s,[]=>s
  |s,a::l=>CK (D6 (s+a)) l
theorem EO (l:List Int)(hl:l.length≤1000000): ∀(r:List Int) (i:Nat) (s:Int),l.drop i=r→loop (Aq l) (s,(i:Int))=some (CK s r):=by
  intro r
  induction r with
  |nil=>
   intro i s hi
   have:=N8 hi
   refine C5 ?_
   unfold Aq
   simp only [show ¬(i:Int)<l.length by omega,decide_false,bP,CK]
  |cons a r ih=>
   intro i s hi
   have hlt:=M9 hi
   have hstep:Aq l (s,(i:Int))=some (.go (D6 (s+a),((i+1:Nat):Int))):=by
     unfold Aq
     simp only [show (i:Int)<l.length by omega,decide_true,bO,Cj hi,lB]
     rw [F2 (n:=(i:Int)+1) (by omega)];rfl
   rw [J2 hstep,ih (i+1) _ (K5 hi),CK]
theorem EP (l:List Int)(hl:l.length≤1000000): ∀(r:List Int) (i:Nat) (s:Int),l.drop i=r→loop (At l) (s,(i:Int))=some (CK s r):=by
  intro r
  induction r with
  |nil=>
   intro i s hi
   have:=N8 hi
   refine C5 ?_
   unfold At
   simp only [show ¬(i:Int)<l.length by omega,decide_false,bP,CK]
  |cons a r ih=>
   intro i s hi
   have hlt:=M9 hi
   have hstep:At l (s,(i:Int))=some (.go (D6 (s+a),((i+1:Nat):Int))):=by
     unfold At
     simp only [show (i:Int)<l.length by omega,decide_true,bO,Cj hi,lB]
     rw [F2 (n:=(i:Int)+1) (by omega)];rfl
   rw [J2 hstep,ih (i+1) _ (K5 hi),CK]
noncomputable def Mg (c:Curve):List Int:=if Cw c.Pts=0 then AF c.Pts else []
theorem jW: ∀l:List Spot,(AF l).length≤l.length
  | []=>by simp [AF]
  |p::r=>by rw [Tj];simp
theorem KL (c:Curve):(Mg c).length≤c.Pts.length:=by
  unfold Mg
  split
  ·exact jW _
  ·simp
theorem Wx (c:Curve)(hl:c.Pts.length≤1000000):Dd c=some (CK 0 (Mg c)):=by
  unfold Dd
  rw [HY c hl,lB]
  have:=KL c
  have h:=EO (Mg c) (by omega) (Mg c) 0 0 (by simp)
  rw [show ((0:Nat):Int)=0 from rfl]at h
  show (loop (Aq (Mg c)) (0,0)).bind _=_
  rw [h];rfl
theorem IA (c:Curve)(hl:c.Pts.length≤1000000):Fl c=some (CK 0 (Mg c)):=by
  unfold Fl
  rw [HZ c hl,lB]
  have:=KL c
  have h:=EP (Mg c) (by omega) (Mg c) 0 0 (by simp)
  rw [show ((0:Nat):Int)=0 from rfl]at h
  show (loop (At (Mg c)) (0,0)).bind _=_
  rw [h];rfl
/-- A quarter turn, so many times. -/
def ZQ:Nat→CurveVector→CurveVector
  |0,v=>v
  |n+1,v=>ZQ n ⟨-v.y,v.x⟩
theorem PU: ∀(n:Nat) (v w:CurveVector),N3 (ZQ n v) (ZQ n w)=N3 v w
  |0,_,_=>rfl
  |n+1,v,w=>by rw [ZQ,ZQ,PU n];unfold N3;grind
/-- A piece's vector, made of numbers: in one quadrant. -/
def nX (n:Nat)(v:CurveVector):Prop:= ∃x y L:Int,v=ZQ n ⟨x,y⟩∧0<x∧0≤y∧x*x+y*y=L*L∧1000≤L∧L≤3029∧x≤L∧y≤L
inductive Ch (Q:CurveVector→Prop):List Spot→Prop
  |one (p:Spot):Ch Q [p]
  |cons (p q:Spot) (r:List Spot) (h:Q (R5 p q)) (hr:Ch Q (q::r)):Ch Q (p::q::r)
theorem KM {n:Nat}: ∀(r:List Spot) (p:Spot) (last:Option CurveVector),Ch (nX n) (p::r)→(∀u,last=some u→nX n u)→Good last (p::r)
  | [],p,last,_,_=> .one _ _
  |q::r,p,last,hc,hl=>by
   cases hc with
   |cons _ _ _ h1 h2=>
    have hq:=h1
    obtain ⟨x,y,L,hv,hx,hy,hsq,hL1,hL2,hxL,hyL⟩:=h1
    have hd:N3 (R5 p q) (R5 p q)=L*L:=by rw [hv,PU];unfold N3;exact hsq
    have hrt:rt (N3 (R5 p q) (R5 p q))=L:=by rw [hd];exact fH (by omega) (by omega)
    refine .cons _ _ _ _ (by rw [hrt,hd]) (by rw [hrt];exact hL1) (by rw [hrt];omega) (fun u hu=> ?_) (KM r q _ h2 (fun u hu=>by cases hu;exact hq))
    obtain ⟨x',y',L',hv',hx',hy',_⟩:=hl u hu
    rw [hv,hv',PU]
    unfold N3
    have:=Int.mul_pos hx' hx
    have:=wO hy' hy
    dsimp only
    omega
/-- What the curves made of numbers are like. -/
structure Made (l:List Spot):Prop where
  two:2≤l.length
  six:l.length≤6
  ch: ∃n,Ch (nX n) l
  bd: ∀p∈l, -50000≤p.X∧p.X≤50000∧ -50000≤p.Y∧p.Y≤50000
theorem Made.valid {l:List Spot}(h:Made l):Valid l:=by
  obtain ⟨n,hc⟩:=h.ch
  have:=h.two;have:=h.six
  refine ⟨h.two,by omega,lY.2 fun p hp=>okS_iff.2 (by have:=h.bd p hp;omega),?_⟩
  match l,h,hc with
  |p::r,_,hc=>exact KM r p none hc (fun u hu=>by cases hu)
  | [],h,_=>exact absurd h.two (by simp)
/-! ### Loops that look for the first error -/
def I7 {α β:Type}(g:Nat→α→Option β):Nat→List α→Option β
  |_,[]=>none
  |i,a::r=>match g i a with
   |some e=>some e
   |none=>I7 g (i+1) r
def FV {β:Type}:Option β→Sum Unit β
  |some e=> .inr e
  |none=> .inl ()
theorem Z1 {α β:Type}(l:List α)(F:Int→Option (Stp Int (Sum Unit β)))(g:Nat→α→Option β)(hF: ∀(i:Nat) a,l[i]? =some a→F (i:Int)=some (match g i a with|some e=> .out (.inr e)|none=> .go ((i+1:Nat):Int)))(h0:F (l.length:Int)=some (.out (.inl ()))):
    loop F 0=some (FV (I7 g 0 l)):=by
  have key: ∀(r:List α) (i:Nat),l.drop i=r→i≤l.length→loop F (i:Int)=some (FV (I7 g i r)):=by
    intro r
    induction r with
    |nil=>
     intro i hi hil
     have:i=l.length:=by have:=List.drop_eq_nil_iff.1 hi;omega
     subst this
     exact C5 h0
    |cons a r ih=>
     intro i hi hil
     have hlt:i<l.length:=by
       rcases Nat.lt_or_ge i l.length with q|q
       ·exact q
       ·rw [List.drop_eq_nil_of_le q]at hi;cases hi
     have ha:l[i]? =some a:=by have:=congrArg (fun z=>z[0]?) hi;simpa using this
     have hr:l.drop (i+1)=r:=by have:=congrArg (fun z=>z.drop 1) hi;simpa using this
     have hs:=hF i a ha
     unfold I7
     cases hg:g i a with
     |some e=>rw [hg]at hs;exact C5 hs
     |none=>rw [hg]at hs;rw [J2 hs];exact ih (i+1) hr (by omega)
  have:=key l 0 rfl (by omega)
  exact this
theorem firstE_none {α β:Type}{g:Nat→α→Option β}: ∀{l:List α} {i:Nat},I7 g i l=none↔∀(j:Nat) a,l[j]? =some a→g (i+j) a=none
  | [],i=>by simp [I7]
  |a::r,i=>by
   unfold I7
   cases h:g i a with
   |some e=>
    constructor
    ·intro h';cases h'
    ·intro h';have:=h' 0 a rfl;rw [Nat.add_zero,h]at this;cases this
   |none=>
    dsimp only
    rw [firstE_none (l:=r)]
    constructor
    ·intro h' j b hj
     cases j with
     |zero=>cases hj;exact h
     |succ j=>have:=h' j b hj;rwa [show i+1+j=i+ (j+1) by omega]at this
    ·intro h' j b hj
     have:=h' (j+1) b hj
     rwa [show i+ (j+1)=i+1+j by omega]at this
/-! ### Numbers -/
def Ve (n a b:Int):Bool:=decide (a≤n)&&decide (n≤b)
theorem Rm (n a b:Int):Dc n a b=some (Ve n a b):=rfl
theorem Sm (n a b:Int):Dg n a b=some (Ve n a b):=rfl
def U6 (kind:Int):Int×Int×Int:=if kind=1 then (2000,30,90)else if kind=2 then (1000,20,60)else if kind=3 then (300,100,300)else (0,0,0)
theorem Ur (k:Int):Ez k=some (U6 k):=by
  unfold Ez U6
  by_cases h:k<0∨k≥4
  ·rw [show ((decide (k<0))||(decide (k≥4)))=true by simpa using h,bO,bR (by omega),bR (by omega),bR (by omega)]
  ·rw [show ((decide (k<0))||(decide (k≥4)))=false by rw [bZ];simpa using h,bP]
   obtain ⟨h1,h2⟩:=not_or.1 h
   rcases (show k=0∨k=1∨k=2∨k=3 by omega)with rfl|rfl|rfl|rfl<;>rfl
theorem Mq (k:Int):By k=some (U6 k):=by
  unfold By U6
  by_cases h1:k=1
  ·subst h1;rfl
  ·by_cases h2:k=2
   ·subst h2;rfl
   ·by_cases h3:k=3
    ·subst h3;rfl
    ·rw [bR h1,bR h2,bR h3]
     rw [show (k==1)=false by simpa using h1,show (k==2)=false by simpa using h2,show (k==3)=false by simpa using h3];rfl
theorem QF {n:Int}(h: -9223372036854775808≤n∧n≤9223372036854775807):D6 n=n:=Go.IntWalk.i64_in n h
theorem C3 {α:Type}{l:List α}{i:Nat}{a:α}(h:l[i]? =some a):C0 l (i:Int)=some a:=by
  unfold C0;rw [bQ (by omega),wF];exact h
theorem H5 {α:Type}{l:List α}{i:Nat}{a:α}(h:l[i]? =some a):i<l.length:=(lI.1 h).1
theorem IF {α:Type}(c:Bool)(a b:α):cond c (some a) (some b)=some (cond c a b):=by cases c<;>rfl
def Co (high:Int):Int→List Int→Bool
  |_,[]=>true
  |low,n::r=>decide (low≤n)&&decide (n<high)&&Co high (n+1) r
theorem FW (l:List Int)(low high:Int)(hl:l.length≤1000000)(hh:high≤1000000000)(h0:0≤low):Bo l low high=some (Co high low l):=by
  have key: ∀(r:List Int) (i:Nat) (lo:Int),0≤lo→l.drop i=r→i≤l.length→loop (Cr l high) (lo,(i:Int))=some (if Co high lo r then .inl ()else .inr false):=by
    intro r
    induction r with
    |nil=>
     intro i lo _ hi hil
     have:=N8 hi
     refine C5 ?_
     unfold Cr
     dsimp only
     rw [show decide ((i:Int)< (l.length:Int))=false from bK (by omega)];rfl
    |cons n r ih=>
     intro i lo hlo hi hil
     have hlt:=M9 hi
     have hs:Cr l high (lo,(i:Int))=some (if decide (lo≤n)&&decide (n<high)then .go (n+1,((i+1:Nat):Int))else .out (.inr false)):=by
       unfold Cr
       dsimp only
       rw [show decide ((i:Int)< (l.length:Int))=true from bJ (by omega),Cj hi,bO,lB,QF (n:=(i:Int)+1) (by omega)]
       by_cases q:lo≤n∧n<high
       ·rw [show ((decide (n<lo))||(decide (n≥high)))=false by rw [bZ];simp;omega,bP,QF (n:=n+1) (by omega),bQ (by simpa using q)];rfl
       ·rw [show ((decide (n<lo))||(decide (n≥high)))=true by simp;omega,bO,bR (by simpa using q)]
     unfold Co
     cases q:(decide (lo≤n)&&decide (n<high))
     ·rw [q]at hs;rw [C5 hs];rfl
     ·rw [q]at hs
      simp only [bU,bM]at q
      rw [J2 hs,ih (i+1) (n+1) (by omega) (K5 hi) (by omega)];rfl
  unfold Bo
  have:=key l 0 low h0 rfl (by omega)
  rw [show ((0:Nat):Int)=0 from rfl]at this
  rw [this]
  cases Co high low l<;>rfl
theorem CL (l:List Int)(low high:Int)(hl:l.length≤1000000):Gd l low high=some (Co high low l):=by
  have key: ∀(r:List Int) (i:Nat) (lo:Int),low≤lo→(i=0→lo=low)→(0<i→l[i - 1]? =some (lo - 1))→l.drop i=r→i≤l.length→loop (Bg l low high) (i:Int)=some (if Co high lo r then .inl ()else .inr false):=by
    intro r
    induction r with
    |nil=>
     intro i lo _ _ _ hi hil
     have:=N8 hi
     refine C5 ?_
     unfold Bg
     rw [show decide ((i:Int)< (l.length:Int))=false from bK (by omega)];rfl
    |cons n r ih=>
     intro i lo hlo h0 h1 hi hil
     have hlt:=M9 hi
     have hn:l[i]? =some n:=by have:=congrArg (fun z=>z[0]?) hi;simpa using this
     have hs:Bg l low high (i:Int)=some (if decide (lo≤n)&&decide (n<high)then .go ((i+1:Nat):Int)else .out (.inr false)):=by
       unfold Bg
       rw [show decide ((i:Int)< (l.length:Int))=true from bJ (by omega),Cj hi,bO,lB,IF,lB,IF,lB,QF (n:=(i:Int)+1) (by omega)]
       by_cases q1:n<low
       ·rw [bJ q1,bR (by simp;omega)];rfl
       ·rw [bK q1]
        simp only [bX,bO,bY]
        by_cases q2:n≥high
        ·rw [bJ q2,bR (by simp;omega)];rfl
        ·rw [bK q2]
         simp only [bX,bS,bY]
         by_cases q3:(i:Int)>0
         ·have e:C0 l (D6 ((i:Int) - 1))=some (lo - 1):=by
            rw [QF (n:=(i:Int) - 1) (by omega),show (i:Int) - 1=((i - 1:Nat):Int) by omega]
            exact C3 (h1 (by omega))
          rw [bJ q3,bO,bO,e,lB,bS]
          by_cases q4:n≤lo - 1
          ·rw [bJ q4,bR (by simp;omega)];rfl
          ·rw [bK q4,bQ (by simp;omega)];rfl
         ·have:lo=low:=h0 (by omega)
          rw [bK q3,bP,lB,bT,bQ (by simp;omega)];rfl
     unfold Co
     cases q:(decide (lo≤n)&&decide (n<high))
     ·rw [q]at hs;rw [C5 hs];rfl
     ·rw [q]at hs
      simp only [bU,bM]at q
      rw [J2 hs,ih (i+1) (n+1) (by omega) (fun z=>by omega) (fun _=>by rw [Nat.add_sub_cancel,hn];congr 1;omega) (K5 hi) (by omega)];rfl
  unfold Gd
  have:=key l 0 low (Int.le_refl _) (fun _=>rfl) (fun z=>by omega) rfl (by omega)
  rw [show ((0:Nat):Int)=0 from rfl]at this
  rw [this]
  cases Co high low l<;>rfl
noncomputable def Ra (c:Curve):Int:=CK 0 (Mg c)
theorem jX {m:Map}{i:Nat}{l:Lane}(h:m.Lanes[i]? =some l)(hl:l.Curve_.Pts.length≤1000000):Ct m (i:Int)=some (Ra l.Curve_):=by
  unfold Ct
  rw [C3 h,lB,Wx _ hl];rfl
/-- The lists of a map are of bearable lengths. -/
structure Bear (m:Map):Prop where
  lanes:m.Lanes.length≤1000000
  pts: ∀l∈m.Lanes,l.Curve_.Pts.length≤1000000∧l.Next.length≤1000000
noncomputable def laneE (n:Nat)(i:Nat)(l:Lane):Option Int:=
  if (U6 l.Kind).1=0 then some 4
  else if Cw l.Curve_.Pts≠0 then some (Cw l.Curve_.Pts)
  else if (Ve l.Half 200 4000&&Ve l.Limit 1 (U6 l.Kind).1)=false then some 2
  else if 3<l.Next.length then some 8
  else if Co n (i+1) l.Next=false then some 11 else none
theorem fJ {m:Map}(B:Bear m):V2 ⟨m⟩=some ((I7 (laneE m.Lanes.length) 0 m.Lanes).getD 0):=by
  have h:=Z1 m.Lanes (Q8 ⟨m⟩) (laneE m.Lanes.length) (fun i l hl=>by
    have hi:=H5 hl
    have hb:=B.lanes
    obtain ⟨p1,p2⟩:=B.pts l (lG hl)
    unfold Q8 laneE
    dsimp only
    rw [show decide ((i:Int)< (m.Lanes.length:Int))=true from bJ (by omega),C3 hl,bO,lB,Ur,lB,Yy _ p1,lB,Rm,Rm,lB,IF,lB,QF (n:=(i:Int)+1) (by omega),FW _ _ _ p2 (by omega) (by omega),lB]
    by_cases h1:(U6 l.Kind).1=0
    ·rw [bQ h1,show ((U6 l.Kind).1==0)=true by simpa using h1];rfl
    ·rw [bR h1,show ((U6 l.Kind).1==0)=false by simpa using h1,bP]
     by_cases h2:Cw l.Curve_.Pts≠0
     ·rw [bQ h2,show (Cw l.Curve_.Pts !=0)=true by simpa using h2];rfl
     ·rw [bR h2,show (Cw l.Curve_.Pts !=0)=false by simpa using h2,bP]
      cases Ve l.Half 200 4000
      ·rfl
      ·cases Ve l.Limit 1 (U6 l.Kind).1
       ·rfl
       ·simp only [bW,bX,bO,bP,bY,Bool.and_self]
        rw [bR (by decide)]
        by_cases h3:3<l.Next.length
        ·rw [bQ h3,show decide ((l.Next.length:Int)>3)=true from bJ (by omega)];rfl
        ·rw [bR h3,show decide ((l.Next.length:Int)>3)=false from bK (by omega),bP]
         cases Co (m.Lanes.length:Int) ((i:Int)+1) l.Next<;>rfl) (by
    unfold Q8
    dsimp only
    rw [show decide ((m.Lanes.length:Int)< (m.Lanes.length:Int))=false from bK (by omega)];rfl)
  unfold V2
  rw [h]
  cases I7 (laneE m.Lanes.length) 0 m.Lanes<;>rfl
theorem fK (k:Int):((decide (k<1))||(decide (k>3)))=decide ((U6 k).1=0):=by
  unfold U6
  by_cases h1:k=1
  ·subst h1;rfl
  ·by_cases h2:k=2
   ·subst h2;rfl
   ·by_cases h3:k=3
    ·subst h3;rfl
    ·rw [bR h1,bR h2,bR h3]
     simp only [decide_true,bV,bM]
     omega
theorem fL {m:Map}(B:Bear m){i:Nat}{l:Lane}(hl:m.Lanes[i]? =some l):Iz m (i:Int)=some ((laneE m.Lanes.length i l).getD 0):=by
  have hi:=H5 hl
  have hb:=B.lanes
  obtain ⟨p1,p2⟩:=B.pts l (lG hl)
  unfold Iz laneE
  rw [C3 hl,lB,fK,Yz _ p1,lB,Mq,lB,Sm,Sm,lB,IF,lB,QF (n:=(i:Int)+1) (by omega),CL _ _ _ p2,lB]
  by_cases h1:(U6 l.Kind).1=0
  ·rw [bQ h1,bJ h1];rfl
  ·rw [bR h1,bK h1,bP]
   by_cases h2:Cw l.Curve_.Pts≠0
   ·rw [bQ h2,show (Cw l.Curve_.Pts !=0)=true by simpa using h2];rfl
   ·rw [bR h2,show (Cw l.Curve_.Pts !=0)=false by simpa using h2,bP]
    cases Ve l.Half 200 4000
    ·rfl
    ·cases Ve l.Limit 1 (U6 l.Kind).1
     ·rfl
     ·simp only [bW,bX,bO,bP,bY,Bool.and_self]
      rw [bR (by decide)]
      by_cases h3:3<l.Next.length
      ·rw [bQ h3,show decide ((l.Next.length:Int)>3)=true from bJ (by omega)];rfl
      ·rw [bR h3,show decide ((l.Next.length:Int)>3)=false from bK (by omega),bP]
       cases Co (m.Lanes.length:Int) ((i:Int)+1) l.Next<;>rfl
theorem KN {n i:Nat}{l:Lane}{e:Int}(h:laneE n i l=some e):e≠0:=by
  unfold laneE at h
  split at h
  ·cases h;decide
  ·split at h
   ·rename_i h2;cases h;exact h2
   ·split at h
    ·cases h;decide
    ·split at h
     ·cases h;decide
     ·split at h
      ·cases h;decide
      ·cases h
theorem SN {m:Map}(B:Bear m):loop (Ec m) 0=some (FV (I7 (laneE m.Lanes.length) 0 m.Lanes)):=
  Z1 m.Lanes (Ec m) (laneE m.Lanes.length) (fun i l hl=>by
   have hi:=H5 hl
   have hb:=B.lanes
   unfold Ec
   rw [show decide ((i:Int)< (m.Lanes.length:Int))=true from bJ (by omega),fL B hl,bO,lB,QF (n:=(i:Int)+1) (by omega)]
   cases h:laneE m.Lanes.length i l with
   |none=>rfl
   |some e=>
    rw [Option.getD_some,show (e !=0)=true by simpa using KN h];rfl) (by
   unfold Ec
   rw [show decide ((m.Lanes.length:Int)< (m.Lanes.length:Int))=false from bK (by omega)];rfl)
theorem Lf {high:Int}: ∀{l:List Int} {low:Int},Co high low l=true→∀k∈l,low≤k∧k<high
  | [],_,_,k,hk=>by cases hk
  |n::r,low,h,k,hk=>by
   unfold Co at h
   simp only [bU,bM]at h
   rcases lU.1 hk with rfl|hk
   ·exact h.1
   ·have:=Lf h.2 k hk
    omega
/-- What a lane is that has no error of its own. -/
structure LaneOK (n i:Nat)(l:Lane):Prop where
  kind:(U6 l.Kind).1≠0
  curve:Cw l.Curve_.Pts=0
  half:Ve l.Half 200 4000=true
  limit:Ve l.Limit 1 (U6 l.Kind).1=true
  few:l.Next.length≤3
  next:Co n (i+1) l.Next=true
theorem VO {n i:Nat}{l:Lane}(h:laneE n i l=none):LaneOK n i l:=by
  unfold laneE at h
  split at h
  ·cases h
  ·rename_i h1
   split at h
   ·cases h
   ·rename_i h2
    split at h
    ·cases h
    ·rename_i h3
     split at h
     ·cases h
     ·rename_i h4
      split at h
      ·cases h
      ·rename_i h5
       simp only [Bool.not_eq_false,bU]at h3
       exact ⟨h1,Decidable.not_not.1 h2,h3.1,h3.2,by omega,by simpa using h5⟩
theorem Za {m:Map}(h:I7 (laneE m.Lanes.length) 0 m.Lanes=none){i:Nat}{l:Lane}(hl:m.Lanes[i]? =some l):LaneOK m.Lanes.length i l:=by
  have:=firstE_none.1 h i l hl
  rw [wK]at this
  exact VO this
theorem FX {l:List Spot}(h:Cw l=0):2≤l.length:=by
  unfold Cw at h
  split at h
  ·cases h
  ·omega
def BE (l:List Spot):Spot:=l.headD ⟨0,0⟩
def Wy (l:List Spot):Spot:=l.getLastD ⟨0,0⟩
theorem NH {l:List Spot}(h:2≤l.length):C0 l 0=some (BE l):=by
  cases l with
  |nil=>simp at h
  |cons a r=>rfl
theorem NI {l:List Spot}(h:2≤l.length)(hl:l.length≤1000000):C0 l (D6 ((l.length:Int) - 1))=some (Wy l):=by
  rw [QF (by omega),show (l.length:Int) - 1=((l.length - 1:Nat):Int) by omega]
  refine C3 ?_
  unfold Wy
  rw [List.getLastD_eq_getLast?,List.getLast?_eq_getElem?]
  rw [lH (by omega)];rfl
def SO (a b:Spot):Bool:=a.X==b.X&& (a.Y==b.Y&&true)
def Zb (m:Map)(l:Lane)(_:Nat)(k:Int):Option Int:=
  match m.Lanes[k.toNat]? with
  |some n=>if n.Kind≠l.Kind then some 4 else if SO (BE n.Curve_.Pts) (Wy l.Curve_.Pts)=false then some 3 else none
  |none=>none
def nextE (m:Map)(_:Nat)(l:Lane):Option Int:=I7 (Zb m l) 0 l.Next
theorem KO {m:Map}(B:Bear m)(H:I7 (laneE m.Lanes.length) 0 m.Lanes=none){i:Nat}{l:Lane}(hl:m.Lanes[i]? =some l){j:Nat}{k:Int}(hk:l.Next[j]? =some k):
    ∃n,C0 m.Lanes k=some n∧m.Lanes[k.toNat]? =some n∧2≤n.Curve_.Pts.length∧n.Curve_.Pts.length≤1000000:=by
  have L:=Za H hl
  have hb:=Lf L.next k (lG hk)
  have hlt:k.toNat<m.Lanes.length:=by omega
  refine ⟨m.Lanes[k.toNat],?_,lH hlt,FX (Za H (lH hlt)).curve,(B.pts _ (List.getElem_mem hlt)).1⟩
  unfold C0
  rw [bQ (by omega),lH hlt]
theorem ZR {m:Map}{l:Lane}{j:Nat}{k e:Int}(h:Zb m l j k=some e):e≠0:=by
  unfold Zb at h
  split at h
  ·split at h
   ·cases h;decide
   ·split at h
    ·cases h;decide
    ·cases h
  ·cases h
theorem NJ {m:Map}(B:Bear m)(H:I7 (laneE m.Lanes.length) 0 m.Lanes=none){i:Nat}{l:Lane}(hl:m.Lanes[i]? =some l):
    loop (X7 ⟨m⟩ l (Wy l.Curve_.Pts)) 0=some (FV (nextE m i l))∧loop (Bh m l) 0=some (FV (nextE m i l)):=by
  have L:=Za H hl
  obtain ⟨p1,p2⟩:=B.pts l (lG hl)
  constructor
  ·refine Z1 l.Next _ (Zb m l) (fun j k hk=> ?_) ?_
   ·have hj:=H5 hk
    obtain ⟨n,g1,g2,g3,g4⟩:=KO B H hl hk
    unfold X7 Zb
    dsimp only
    rw [show decide ((j:Int)< (l.Next.length:Int))=true from bJ (by omega),C3 hk,bO,lB,g1,lB,lB,NH g3,lB,QF (n:=(j:Int)+1) (by omega),g2]
    dsimp only
    rw [show ((BE n.Curve_.Pts).X==(Wy l.Curve_.Pts).X&& ((BE n.Curve_.Pts).Y==(Wy l.Curve_.Pts).Y&&true))=SO (BE n.Curve_.Pts) (Wy l.Curve_.Pts) from rfl]
    by_cases h1:n.Kind≠l.Kind
    ·rw [bQ h1,show (n.Kind !=l.Kind)=true by simpa using h1];rfl
    ·rw [bR h1,show (n.Kind !=l.Kind)=false by simpa using h1]
     cases SO (BE n.Curve_.Pts) (Wy l.Curve_.Pts)<;>rfl
   ·unfold X7
    rw [show decide ((l.Next.length:Int)< (l.Next.length:Int))=false from bK (by omega)];rfl
  ·refine Z1 l.Next _ (Zb m l) (fun j k hk=> ?_) ?_
   ·have hj:=H5 hk
    obtain ⟨n,g1,g2,g3,g4⟩:=KO B H hl hk
    unfold Bh Zb
    rw [show decide ((j:Int)< (l.Next.length:Int))=true from bJ (by omega),C3 hk,bO,lB,g1,lB,NH g3,lB,NI (FX L.curve) p1,lB,QF (n:=(j:Int)+1) (by omega),g2]
    dsimp only
    rw [show ((BE n.Curve_.Pts).X==(Wy l.Curve_.Pts).X&& ((BE n.Curve_.Pts).Y==(Wy l.Curve_.Pts).Y&&true))=SO (BE n.Curve_.Pts) (Wy l.Curve_.Pts) from rfl]
    by_cases h1:n.Kind≠l.Kind
    ·rw [bQ h1,show (n.Kind !=l.Kind)=true by simpa using h1];rfl
    ·rw [bR h1,show (n.Kind !=l.Kind)=false by simpa using h1]
     cases SO (BE n.Curve_.Pts) (Wy l.Curve_.Pts)<;>rfl
   ·unfold Bh
    rw [show decide ((l.Next.length:Int)< (l.Next.length:Int))=false from bK (by omega)];rfl
theorem NK {m:Map}(B:Bear m)(H:I7 (laneE m.Lanes.length) 0 m.Lanes=none):
    T9 ⟨m⟩=some ((I7 (nextE m) 0 m.Lanes).getD 0)∧Ja m=some ((I7 (nextE m) 0 m.Lanes).getD 0):=by
  have hb:=B.lanes
  constructor
  ·have h:=Z1 m.Lanes (P6 ⟨m⟩) (nextE m) (fun i l hl=>by
     have hi:=H5 hl
     have L:=Za H hl
     obtain ⟨p1,p2⟩:=B.pts l (lG hl)
     unfold P6
     dsimp only
     rw [show decide ((i:Int)< (m.Lanes.length:Int))=true from bJ (by omega),C3 hl,bO,lB,NI (FX L.curve) p1,lB,(NJ B H hl).1,QF (n:=(i:Int)+1) (by omega)]
     cases nextE m i l<;>rfl) (by
     unfold P6
     dsimp only
     rw [show decide ((m.Lanes.length:Int)< (m.Lanes.length:Int))=false from bK (by omega)];rfl)
   unfold T9
   rw [h]
   cases I7 (nextE m) 0 m.Lanes<;>rfl
  ·have h:=Z1 m.Lanes (Bi m) (nextE m) (fun i l hl=>by
     have hi:=H5 hl
     unfold Bi
     rw [show decide ((i:Int)< (m.Lanes.length:Int))=true from bJ (by omega),C3 hl,bO,lB,(NJ B H hl).2,QF (n:=(i:Int)+1) (by omega)]
     cases nextE m i l<;>rfl) (by
     unfold Bi
     rw [show decide ((m.Lanes.length:Int)< (m.Lanes.length:Int))=false from bK (by omega)];rfl)
   unfold Ja
   rw [h]
   cases I7 (nextE m) 0 m.Lanes<;>rfl
/-- The place of the first element with a property. -/
theorem KP {α:Type}{f:Int→Option (Stp Int (Sum Unit Int))}(l:List α)(P:α→Bool)(hl:l.length≤1000000000)(hf: ∀(i:Nat) a,l[i]? =some a→f (i:Int)=some (if P a then .out (.inr (i:Int))else .go (D6 ((i:Int)+1))))(he:f (l.length:Int)=some (.out (.inl ()))):
    loop f 0=some (match l.findIdx? P with|some i=> .inr (i:Int)|none=> .inl ()):=by
  have key: ∀(r:List α) (i:Nat),l.drop i=r→i≤l.length→loop f (i:Int)=some (match r.findIdx? P with|some j=> .inr ((i+j:Nat):Int)|none=> .inl ()):=by
    intro r
    induction r with
    |nil=>
     intro i hi hil
     have:=N8 hi
     obtain rfl:i=l.length:=by omega
     rw [C5 he];rfl
    |cons a r ih=>
     intro i hi _
     have hlt:=M9 hi
     have h0:l[i]? =some a:=by have:=congrArg (fun z=>z[0]?) hi;simpa using this
     have hs:=hf i a h0
     rw [List.findIdx?_cons]
     by_cases hp:P a=true
     ·rw [bQ hp]at hs
      rw [C5 hs,bQ hp];simp
     ·rw [bR hp]at hs
      rw [F2 (by omega)]at hs
      rw [J2 hs,show ((i:Int)+1)=((i+1:Nat):Int) by omega,ih (i+1) (K5 hi) (by omega),bR hp]
      cases r.findIdx? P with
      |none=>rfl
      |some j=>simp only [lF];congr 3;omega
  have:=key l 0 rfl (by omega)
  rw [show ((0:Nat):Int)=0 from rfl]at this
  rw [this]
  cases l.findIdx? P<;>simp
/-- -1, or the place. -/
def EQ {α:Type}(P:α→Bool)(l:List α):Int:=match l.findIdx? P with|some i=>(i:Int)|none=> -1
theorem Us {α:Type}(P:α→Bool)(l:List α):decide (EQ P l≥0)=l.any P:=by
  unfold EQ
  cases h:l.findIdx? P with
  |none=>
   have:=List.findIdx?_eq_none_iff.1 h
   rw [show l.any P=false by rw [List.any_eq_false];intro x hx;simpa using this x hx]
   decide
  |some i=>
   have:=List.findIdx?_isSome (xs:=l) (p:=P)
   rw [h]at this
   rw [← this]
   simp
/-- What both twins compute of a list. -/
theorem Qa {α:Type}{f:Int→Option (Stp Int (Sum Unit Int))}(l:List α)(P:α→Bool)(hl:l.length≤1000000000)(hf: ∀(i:Nat) a,l[i]? =some a→f (i:Int)=some (if P a then .out (.inr (i:Int))else .go (D6 ((i:Int)+1))))(he:f (l.length:Int)=some (.out (.inl ()))):
    thenS (loop f 0) (fun _=>some (-1)) (fun r=>some r)=some (EQ P l):=by
  rw [KP l P hl hf he]
  unfold EQ
  cases l.findIdx? P<;>rfl
theorem ZS (l:List Phase)(hl:l.length≤1000000):F0 l=some (l.any fun p=> !Ve p.Ticks 1 10000):=by
  unfold F0 H4
  rw [Qa l (fun p=> !Ve p.Ticks 1 10000) (by omega) (fun i a h=>by
   have:=H5 h
   unfold K3 Eg
   rw [show decide ((i:Int)< (l.length:Int))=true from bJ (by omega),C3 h,bO,lB,Rm,lB,lB]
   cases Ve a.Ticks 1 10000<;>rfl) (by
   unfold K3
   simp)]
  rw [lB,Us]
theorem VP (m:Map)(l:List Phase)(hl:l.length≤1000000)(hm:m.Lanes.length≤1000000)(hg: ∀p∈l,p.Green.length≤1000000):E9 l ⟨m⟩=some (l.any fun p=> !Co m.Lanes.length 0 p.Green):=by
  unfold E9 G7
  rw [Qa l (fun p=> !Co m.Lanes.length 0 p.Green) (by omega) (fun i a h=>by
   have:=H5 h
   unfold E8 T0
   dsimp only
   rw [show decide ((i:Int)< (l.length:Int))=true from bJ (by omega),C3 h,bO,lB,FW _ _ _ (hg a (lG h)) (by omega) (by omega),lB,lB]
   cases Co (m.Lanes.length:Int) 0 a.Green<;>rfl) (by
   unfold E8
   simp)]
  rw [lB,Us]
structure BearS (m:Map):Prop where
  many:m.Signals.length≤1000000
  phases: ∀s∈m.Signals,s.Phases.length≤1000000∧∀p∈s.Phases,p.Green.length≤1000000
def signalE (m:Map)(_:Nat)(s:Signal):Option Int:=
  if s.Phases.length=0 then some 6
  else if 6<s.Phases.length then some 8
  else if Ve s.Offset 0 1099511627776=false then some 2
  else if (s.Phases.any fun p=> !Ve p.Ticks 1 10000)=true then some 2
  else if (s.Phases.any fun p=> !Co m.Lanes.length 0 p.Green)=true then some 11 else none
theorem VQ {m:Map}(B:Bear m)(S:BearS m):S5 ⟨m⟩=some ((I7 (signalE m) 0 m.Signals).getD 0):=by
  have h:=Z1 m.Signals (P0 ⟨m⟩) (signalE m) (fun i s hs=>by
    have hi:=H5 hs
    have hb:=S.many
    obtain ⟨p1,p2⟩:=S.phases s (lG hs)
    unfold P0 signalE
    dsimp only
    rw [show decide ((i:Int)< (m.Signals.length:Int))=true from bJ (by omega),C3 hs,bO,lB,Rm,lB,ZS _ p1,lB,VP m _ p1 B.lanes p2,lB,QF (n:=(i:Int)+1) (by omega)]
    by_cases h1:s.Phases.length=0
    ·rw [bQ h1,h1];rfl
    ·rw [bR h1,show ((s.Phases.length:Int)==0)=false by simp only [beq_eq_false_iff_ne];omega,bP]
     by_cases h2:6<s.Phases.length
     ·rw [bQ h2,show decide ((s.Phases.length:Int)>6)=true from bJ (by omega)];rfl
     ·rw [bR h2,show decide ((s.Phases.length:Int)>6)=false from bK (by omega),bP]
      cases Ve s.Offset 0 1099511627776
      ·rfl
      ·cases (s.Phases.any fun p=> !Ve p.Ticks 1 10000)
       ·cases (s.Phases.any fun p=> !Co m.Lanes.length 0 p.Green)<;>rfl
       ·rfl) (by
    unfold P0
    dsimp only
    rw [show decide ((m.Signals.length:Int)< (m.Signals.length:Int))=false from bK (by omega)];rfl)
  unfold S5
  rw [h]
  cases I7 (signalE m) 0 m.Signals<;>rfl
theorem SP (s:Signal)(hl:s.Phases.length≤1000000): ∀(r:List Phase) (i:Nat) (b:Bool),s.Phases.drop i=r→i≤s.Phases.length→loop (W4 s) (b,(i:Int))=some (b&& !(r.any fun p=> !Ve p.Ticks 1 10000)):=by
  intro r
  induction r with
  |nil=>
   intro i b hi hil
   have:=N8 hi
   refine C5 ?_
   unfold W4
   dsimp only
   rw [show decide ((i:Int)< (s.Phases.length:Int))=false from bK (by omega)]
   simp
  |cons p r ih=>
   intro i b hi hil
   have hlt:=M9 hi
   have hs:W4 s (b,(i:Int))=some (.go (b&&Ve p.Ticks 1 10000,((i+1:Nat):Int))):=by
     unfold W4
     dsimp only
     rw [show decide ((i:Int)< (s.Phases.length:Int))=true from bJ (by omega),Cj hi,QF (n:=(i:Int)+1) (by omega)]
     cases b<;>rfl
   rw [J2 hs,ih (i+1) _ (K5 hi) (by omega),bH]
   cases b<;>cases Ve p.Ticks 1 10000<;>simp
theorem PV (m:Map)(s:Signal)(hl:s.Phases.length≤1000000)(hg: ∀p∈s.Phases,p.Green.length≤1000000):loop (W3 m s) 0=some (if (s.Phases.any fun p=> !Co m.Lanes.length 0 p.Green)=true then .inr 11 else .inl ()):=by
  have h:=Z1 s.Phases (W3 m s) (fun _ p=>if Co m.Lanes.length 0 p.Green then none else some 11) (fun i p hp=>by
    have:=H5 hp
    unfold W3
    rw [show decide ((i:Int)< (s.Phases.length:Int))=true from bJ (by omega),C3 hp,bO,lB,CL _ _ _ (hg p (lG hp)),lB,QF (n:=(i:Int)+1) (by omega)]
    cases Co (m.Lanes.length:Int) 0 p.Green<;>rfl) (by
    unfold W3
    rw [show decide ((s.Phases.length:Int)< (s.Phases.length:Int))=false from bK (by omega)];rfl)
  rw [h]
  have key: ∀(l:List Phase) (i:Nat),FV (I7 (fun (_:Nat) (p:Phase)=>if Co (m.Lanes.length:Int) 0 p.Green=true then none else some (11:Int)) i l)=if (l.any fun p=> !Co m.Lanes.length 0 p.Green)=true then .inr 11 else .inl ():=by
    intro l
    induction l with
    |nil=>intro i;rfl
    |cons p r ih=>
     intro i
     unfold I7
     rw [bH]
     cases hq:Co (m.Lanes.length:Int) 0 p.Green
     ·rfl
     ·exact ih (i+1)
  rw [key]
end Go.Abs.World
/-! Loops over lists, as functions on lists. -/
namespace Go.Abs
open Go
section
variable {α β σ S τ:Type}
/-- What a loop over a list makes, with a state, and with a way out. -/
def KQ (step:Nat→σ→α→Sum σ τ)(fin:σ→τ):Nat→σ→List α→τ
  |_,s,[]=>fin s
  |i,s,a::r=>match step i s a with
   | .inl s'=>KQ step fin (i+1) s' r
   | .inr t=>t
theorem U7 {l:List α}{i:Nat}{a:α}{r:List α}(h:l.drop i=a::r):l[i]? =some a:=by
  have:=congrArg (fun z=>z[0]?) h
  simpa using this
theorem mO {F:S→Option (Stp S τ)}(pk:Nat→σ→S)(l:List α)(inv:Nat→σ→Prop)(step:Nat→σ→α→Sum σ τ)(fin:σ→τ){s0:σ}{S0:S}(hS:pk 0 s0=S0)(hi:inv 0 s0)
    (hF: ∀i a s,l[i]? =some a→inv i s→F (pk i s)=some (match step i s a with| .inl s'=> .go (pk (i+1) s')| .inr t=> .out t))
    (hI: ∀i a s s',l[i]? =some a→inv i s→step i s a= .inl s'→inv (i+1) s')
    (h0: ∀s,inv l.length s→F (pk l.length s)=some (.out (fin s))):loop F S0=some (KQ step fin 0 s0 l):=by
  have key: ∀(r:List α) (i:Nat) (s:σ),l.drop i=r→i≤l.length→inv i s→loop F (pk i s)=some (KQ step fin i s r):=by
    intro r
    induction r with
    |nil=>
     intro i s hi hil hv
     have:=N8 hi
     obtain rfl:i=l.length:=by omega
     exact C5 (h0 s hv)
    |cons a r ih=>
     intro i s hi hil hv
     have hlt:=M9 hi
     have ha:=U7 hi
     have hs:=hF i a s ha hv
     unfold KQ
     cases h:step i s a with
     |inl s'=>rw [h]at hs;rw [J2 hs];exact ih (i+1) s' (K5 hi) (by omega) (hI i a s s' ha hv h)
     |inr t=>rw [h]at hs;exact C5 hs
  rw [← hS]
  exact key l 0 s0 rfl (by omega) hi
/-- The same without a way out. -/
def ER (step:Nat→σ→α→σ):Nat→σ→List α→σ
  |_,s,[]=>s
  |i,s,a::r=>ER step (i+1) (step i s a) r
theorem GX (step:Nat→σ→α→σ)(fin:σ→τ): ∀(l:List α) (i:Nat) (s:σ),KQ (fun i s a=> .inl (step i s a)) fin i s l=fin (ER step i s l)
  | [],_,_=>rfl
  |_::r,i,_=>GX step fin r (i+1) _
theorem XS {F:S→Option (Stp S τ)}(pk:Nat→σ→S)(l:List α)(inv:Nat→σ→Prop)(step:Nat→σ→α→σ)(fin:σ→τ){s0:σ}{S0:S}(hS:pk 0 s0=S0)(hi:inv 0 s0)
    (hF: ∀i a s,l[i]? =some a→inv i s→F (pk i s)=some (.go (pk (i+1) (step i s a))))
    (hI: ∀i a s,l[i]? =some a→inv i s→inv (i+1) (step i s a))
    (h0: ∀s,inv l.length s→F (pk l.length s)=some (.out (fin s))):loop F S0=some (fin (ER step 0 s0 l)):=by
  rw [← GX step fin]
  exact mO pk l inv _ fin hS hi hF (fun i a s s' h1 h2 h3=>by cases h3;exact hI i a s h1 h2) h0
/-- The elements that a loop gathers. -/
def Gl (g:Nat→α→Option β):Nat→List α→List β
  |_,[]=> []
  |i,a::r=>match g i a with
   |some b=>b::Gl g (i+1) r
   |none=>Gl g (i+1) r
theorem Ut (g:Nat→α→Option β): ∀(l:List α) (i:Nat),(Gl g i l).length≤l.length
  | [],_=>wH _
  |a::r,i=>by
   have:=Ut g r (i+1)
   unfold Gl
   cases g i a<;>simp only [lL]<;>omega
theorem CM (g:Nat→α→Option β): ∀(l:List α) (i:Nat) (s:List β),ER (fun i s a=>match g i a with|some b=>s++ [b]|none=>s) i s l=s++Gl g i l
  | [],_,s=>by simp [ER,Gl]
  |a::r,i,s=>by
   unfold ER Gl
   rw [CM g r (i+1)]
   cases g i a<;>simp
theorem mP {F:S→Option (Stp S τ)}(pk:Nat→List β→S)(l:List α)(g:Nat→α→Option β)(fin:List β→τ){S0:S}(hS:pk 0 []=S0)
    (hF: ∀i a (s:List β),l[i]? =some a→s.length≤i→F (pk i s)=some (.go (pk (i+1) (match g i a with|some b=>s++ [b]|none=>s))))
    (h0: ∀s,F (pk l.length s)=some (.out (fin s))):loop F S0=some (fin (Gl g 0 l)):=by
  have:=XS pk l (fun i s=>s.length≤i) (fun i s a=>match g i a with|some b=>s++ [b]|none=>s) fin hS (by simp) hF (fun i a s _ hs=>by
    cases g i a<;>simp<;>omega) (fun s _=>h0 s)
  rw [this,CM,lQ]
theorem FY {F:List β×Int→Option (Stp (List β×Int) τ)}(l:List α)(g:Nat→α→Option β)(fin:List β→τ)
    (hF: ∀(i:Nat) a (s:List β),l[i]? =some a→s.length≤i→F (s,(i:Int))=some (.go ((match g i a with|some b=>s++ [b]|none=>s),((i+1:Nat):Int))))
    (h0: ∀s,F (s,(l.length:Int))=some (.out (fin s))):loop F ([],0)=some (fin (Gl g 0 l)):=mP (fun i s=>(s,(i:Int))) l g fin rfl hF h0
/-- Is there one? -/
theorem GY {F:Int→Option (Stp Int (Sum Unit β))}(l:List α)(p:α→Bool)(v:β)(hF: ∀(i:Nat) a,l[i]? =some a→F (i:Int)=some (if p a then .out (.inr v)else .go ((i+1:Nat):Int)))(h0:F (l.length:Int)=some (.out (.inl ()))):
    loop F 0=some (if l.any p then .inr v else .inl ()):=by
  have key: ∀(l:List α) (i:Nat),KQ (fun _ _ a=>if p a then Sum.inr (Sum.inr v)else Sum.inl ()) (fun _=>(Sum.inl ():Sum Unit β)) i () l=if l.any p then .inr v else .inl ():=by
    intro l
    induction l with
    |nil=>intro i;rfl
    |cons a r ih=>
     intro i
     unfold KQ
     rw [bH]
     cases h:p a
     ·exact ih (i+1)
     ·rfl
  rw [← key l 0]
  exact mO (F:=F) (σ:=Unit) (fun i _=>(i:Int)) l (fun _ _=>True) _ _ (s0:=()) rfl trivial (fun i a _ h _=>by rw [hF i a h];cases p a<;>rfl) (fun _ _ _ _ _ _ _=>trivial) (fun _ _=>h0)
end
theorem J9 {i:Nat}{n:Nat}(h:i<n):decide ((i:Int)< (n:Int))=true:=bJ (by omega)
theorem H9 (n:Nat):decide ((n:Int)< (n:Int))=false:=bK (by omega)
theorem G8 {i:Nat}{n:Nat}(h:i<n)(hn:n≤1000000000000):D6 ((i:Int)+1)=((i+1:Nat):Int):=by rw [F2 (by omega)];omega
end Go.Abs
namespace Go.Abs.World
open Go Go.Abs
structure BearZ (m:Map):Prop where
  many:m.Zones.length≤1000000
  parts: ∀z∈m.Zones,z.Parts.length≤1000000
noncomputable def Q3 (m:Map)(k:Int):Int:=((m.Lanes[k.toNat]?).map fun l=>Ra l.Curve_).getD 0
noncomputable def Tk (m:Map)(p:Part):Bool:=decide (p.From<0)||decide (p.From≥p.To)||decide (p.To>Q3 m p.Lane_)||decide (p.Rank<0)||decide (p.Rank>100)
noncomputable def zoneE (m:Map)(_:Nat)(z:Zone):Option Int:=
  if z.Parts.length<2 then some 6
  else if 6<z.Parts.length then some 8
  else if z.Signal_<0∨(m.Signals.length:Int)<z.Signal_ then some 2
  else if Co m.Lanes.length 0 (z.Parts.map (·.Lane_))=false then some 11
  else if z.Parts.any (Tk m)=true then some 2 else none
theorem Tl {m:Map}{k:Int}(h0:0≤k)(h1:k<m.Lanes.length): ∃l,m.Lanes[k.toNat]? =some l∧C0 m.Lanes k=some l:=by
  have hlt:k.toNat<m.Lanes.length:=by omega
  refine ⟨m.Lanes[k.toNat],lH hlt,?_⟩
  unfold C0
  rw [bQ h0,lH hlt]
theorem IG {m:Map}(B:Bear m){k:Int}(h0:0≤k)(h1:k<m.Lanes.length):Ct m k=some (Q3 m k):=by
  obtain ⟨l,e1,e2⟩:=Tl h0 h1
  have:=jX (m:=m) e1 (B.pts l (lG e1)).1
  rw [show ((k.toNat:Nat):Int)=k by omega]at this
  rw [this,Q3,e1];rfl
theorem KR {m:Map}(B:Bear m){k:Int}(h0:0≤k)(h1:k<m.Lanes.length): ∃l,C0 m.Lanes k=some l∧Fl l.Curve_=some (Q3 m k):=by
  obtain ⟨l,e1,e2⟩:=Tl h0 h1
  refine ⟨l,e2,?_⟩
  rw [IA _ (B.pts l (lG e1)).1,Q3,e1];rfl
theorem SQ {α β:Type}(f:α→β): ∀(l:List α) (i:Nat),Gl (fun _ a=>some (f a)) i l=l.map f
  | [],_=>rfl
  |a::r,i=>by rw [Gl,SQ f r];rfl
theorem fM {z:Zone}{F:List Int×Int→Option (Stp (List Int×Int) (List Int))}(hl:z.Parts.length≤1000000)
    (hF: ∀x,F x=cond (decide (x.2< (z.Parts.length:Int))) ((C0 z.Parts x.2).bind fun v=>(X3 x.1 [v.Lane_]).bind fun w=>some (.go (w,D6 (x.2+1)))) (some (.out x.1))):
    loop F ([],0)=some (z.Parts.map (·.Lane_)):=by
  rw [← SQ (fun p:Part=>p.Lane_) z.Parts 0]
  refine mP (fun i s=>(s,(i:Int))) z.Parts (fun _ p=>some p.Lane_) id rfl (fun i a s ha hs=> ?_) (fun s=> ?_)
  ·have hi:=H5 ha
   rw [hF,J9 hi,C3 ha,bO,lB,Ey (by simp;omega),lB,G8 hi (by omega)]
  ·rw [hF,H9];rfl
theorem fN {m:Map}(B:Bear m)(Z:BearZ m):V3 ⟨m⟩=some ((I7 (zoneE m) 0 m.Zones).getD 0):=by
  have hb:=B.lanes
  have h:=Z1 m.Zones (R0 ⟨m⟩) (zoneE m) (fun i z hz=>by
    have hi:=H5 hz
    have hm:=Z.many
    have p1:=Z.parts z (lG hz)
    unfold R0 zoneE
    dsimp only
    rw [J9 hi,C3 hz,bO,lB,fM p1 (F:=Fc z) (fun x=>rfl),lB,FW _ _ _ (by simpa using p1) (by omega) (by omega),lB,G8 hi (by omega)]
    by_cases h1:z.Parts.length<2
    ·rw [bQ h1,show decide ((z.Parts.length:Int)<2)=true from bJ (by omega)];rfl
    ·rw [bR h1,show decide ((z.Parts.length:Int)<2)=false from bK (by omega),bP]
     by_cases h2:6<z.Parts.length
     ·rw [bQ h2,show decide ((z.Parts.length:Int)>6)=true from bJ (by omega)];rfl
     ·rw [bR h2,show decide ((z.Parts.length:Int)>6)=false from bK (by omega),bP]
      by_cases h3:z.Signal_<0∨(m.Signals.length:Int)<z.Signal_
      ·rw [bQ h3,show ((decide (z.Signal_<0))||(decide (z.Signal_>(m.Signals.length:Int))))=true by simpa using h3];rfl
      ·rw [bR h3,show ((decide (z.Signal_<0))||(decide (z.Signal_>(m.Signals.length:Int))))=false by rw [bZ];simpa using h3,bP]
       cases h4:Co (m.Lanes.length:Int) 0 (z.Parts.map (·.Lane_))
       ·rfl
       ·rw [bR (by decide)]
        have:=GY (F:=Q9 ⟨m⟩ z) z.Parts (Tk m) (2:Int) (fun j p hp=>by
          have hj:=H5 hp
          have hk:=Lf h4 p.Lane_ (List.mem_map.2 ⟨p,lG hp,rfl⟩)
          unfold Q9 Tk
          dsimp only
          rw [J9 hj,C3 hp,bO,lB,IG B hk.1 hk.2,G8 hj (by omega)]
          cases h5:(decide (p.From<0)||decide (p.From≥p.To))
          ·simp only [bX,bO,lB]
           cases (false||decide (p.To>Q3 m p.Lane_)||decide (p.Rank<0)||decide (p.Rank>100))<;>rfl
          ·rfl) (by unfold Q9;rw [H9];rfl)
        rw [this]
        cases z.Parts.any (Tk m)<;>rfl) (by
    unfold R0
    dsimp only
    rw [H9];rfl)
  unfold V3
  rw [h]
  cases I7 (zoneE m) 0 m.Zones<;>rfl
theorem fO {m:Map}(B:Bear m)(Z:BearZ m){i:Nat}{z:Zone}(hz:m.Zones[i]? =some z):Jb m z=some ((zoneE m i z).getD 0):=by
  have hb:=B.lanes
  have p1:=Z.parts z (lG hz)
  unfold Jb zoneE
  rw [fM p1 (F:=Il z) (fun x=>rfl),lB,CL _ _ _ (by simpa using p1),lB]
  by_cases h1:z.Parts.length<2
  ·rw [bQ h1,show decide ((z.Parts.length:Int)<2)=true from bJ (by omega)];rfl
  ·rw [bR h1,show decide ((z.Parts.length:Int)<2)=false from bK (by omega),bP]
   by_cases h2:6<z.Parts.length
   ·rw [bQ h2,show decide ((z.Parts.length:Int)>6)=true from bJ (by omega)];rfl
   ·rw [bR h2,show decide ((z.Parts.length:Int)>6)=false from bK (by omega),bP]
    by_cases h3:z.Signal_<0∨(m.Signals.length:Int)<z.Signal_
    ·rw [bQ h3,show ((decide (z.Signal_<0))||(decide (z.Signal_>(m.Signals.length:Int))))=true by simpa using h3];rfl
    ·rw [bR h3,show ((decide (z.Signal_<0))||(decide (z.Signal_>(m.Signals.length:Int))))=false by rw [bZ];simpa using h3,bP]
     cases h4:Co (m.Lanes.length:Int) 0 (z.Parts.map (·.Lane_))
     ·rfl
     ·rw [bR (by decide)]
      have:=GY (F:=Bj m z) z.Parts (Tk m) (2:Int) (fun j p hp=>by
        have hj:=H5 hp
        have hk:=Lf h4 p.Lane_ (List.mem_map.2 ⟨p,lG hp,rfl⟩)
        obtain ⟨l,e1,e2⟩:=KR B hk.1 hk.2
        unfold Bj Tk
        rw [J9 hj,C3 hp,bO,lB,e1,G8 hj (by omega)]
        cases h5:(decide (p.From<0)||decide (p.From≥p.To))
        ·simp only [bX,bO,lB,e2]
         cases (false||decide (p.To>Q3 m p.Lane_)||decide (p.Rank<0)||decide (p.Rank>100))<;>rfl
        ·rfl) (by unfold Bj;rw [H9];rfl)
      rw [this]
      cases z.Parts.any (Tk m)<;>rfl
structure BearW (m:Map):Prop where
  many:m.Works.length≤1000000
noncomputable def workE (m:Map)(_:Nat)(w:Work):Option Int:=
  if w.Lane_<0∨(m.Lanes.length:Int)≤w.Lane_ then some 7
  else if (decide (w.From<0)||decide (w.From>w.To)||decide (w.To>Q3 m w.Lane_)||decide (w.Begin<0)||decide (w.Begin≥w.End)||decide (w.End>1099511627776)|| !Ve w.Limit 0 ((m.Lanes[w.Lane_.toNat]?).map fun l=>(U6 l.Kind).1).get!)=true then some 2 else none
theorem fP {m:Map}(B:Bear m)(W:BearW m):V4 ⟨m⟩=some ((I7 (workE m) 0 m.Works).getD 0):=by
  have hb:=B.lanes
  have h:=Z1 m.Works (R3 ⟨m⟩) (workE m) (fun i w hw=>by
    have hi:=H5 hw
    have hm:=W.many
    unfold R3 workE
    dsimp only
    rw [J9 hi,C3 hw,bO,lB,G8 hi (by omega)]
    by_cases h1:w.Lane_<0∨(m.Lanes.length:Int)≤w.Lane_
    ·rw [bQ h1,show ((decide (w.Lane_<0))||(decide (w.Lane_≥(m.Lanes.length:Int))))=true by simpa using h1];rfl
    ·rw [bR h1,show ((decide (w.Lane_<0))||(decide (w.Lane_≥(m.Lanes.length:Int))))=false by rw [bZ];simpa using h1,bP]
     obtain ⟨l,e1,e2⟩:=Tl (m:=m) (k:=w.Lane_) (by omega) (by omega)
     rw [e2,lB,Ur,lB,IG B (by omega) (by omega),Rm,e1]
     simp only [lF,Option.get!_some]
     cases (decide (w.From<0)||decide (w.From>w.To))
     ·simp only [bX,bO,lB]
      cases (false||decide (w.To>Q3 m w.Lane_)||decide (w.Begin<0)||decide (w.Begin≥w.End)||decide (w.End>1099511627776))
      ·simp only [bX,bO,lB]
       by_cases hq:Ve w.Limit 0 (U6 l.Kind).1=true<;>simp [hq]
      ·rfl
     ·rfl) (by
    unfold R3
    dsimp only
    rw [H9];rfl)
  unfold V4
  rw [h]
  cases I7 (workE m) 0 m.Works<;>rfl
theorem fQ {m:Map}(B:Bear m){i:Nat}(w:Work):Jc m w=some ((workE m i w).getD 0):=by
  have hb:=B.lanes
  unfold Jc workE
  by_cases h1:w.Lane_<0∨(m.Lanes.length:Int)≤w.Lane_
  ·rw [bQ h1,show ((decide (w.Lane_<0))||(decide (w.Lane_≥(m.Lanes.length:Int))))=true by simpa using h1];rfl
  ·rw [bR h1,show ((decide (w.Lane_<0))||(decide (w.Lane_≥(m.Lanes.length:Int))))=false by rw [bZ];simpa using h1,bP]
   obtain ⟨l,e1,e2⟩:=Tl (m:=m) (k:=w.Lane_) (by omega) (by omega)
   obtain ⟨l',e3,e4⟩:=KR B (k:=w.Lane_) (by omega) (by omega)
   rw [e2]at e3
   cases e3
   rw [e2,lB,Mq,lB,e4,Sm,e1]
   simp only [lF,Option.get!_some]
   cases (decide (w.From<0)||decide (w.From>w.To))
   ·simp only [bX,bO,lB]
    cases (false||decide (w.To>Q3 m w.Lane_)||decide (w.Begin<0)||decide (w.Begin≥w.End)||decide (w.End>1099511627776))
    ·simp only [bX,bO,lB]
     by_cases hq:Ve w.Limit 0 (U6 l.Kind).1=true<;>simp [hq]
    ·rfl
   ·rfl
theorem VR {m:Map}(S:BearS m)(i:Nat){s:Signal}(hs:s∈m.Signals):Fk m s=some ((signalE m i s).getD 0):=by
  obtain ⟨p1,p2⟩:=S.phases s hs
  unfold Fk signalE
  rw [Sm,lB,show (0:Int)=((0:Nat):Int) from rfl,SP s p1 s.Phases 0 _ rfl (by omega),lB]
  rw [show ((0:Nat):Int)=0 from rfl,PV m s p1 p2]
  by_cases h1:s.Phases.length=0
  ·rw [bQ h1,h1];rfl
  ·rw [bR h1,show ((s.Phases.length:Int)==0)=false by simp only [beq_eq_false_iff_ne];omega,bP]
   by_cases h2:6<s.Phases.length
   ·rw [bQ h2,show decide ((s.Phases.length:Int)>6)=true from bJ (by omega)];rfl
   ·rw [bR h2,show decide ((s.Phases.length:Int)>6)=false from bK (by omega),bP]
    cases Ve s.Offset 0 1099511627776
    ·rfl
    ·cases (s.Phases.any fun p=> !Ve p.Ticks 1 10000)
     ·cases (s.Phases.any fun p=> !Co m.Lanes.length 0 p.Green)<;>rfl
     ·rfl
/-- All lists of a map are of bearable lengths. -/
structure BearM (m:Map):Prop where
  toBear:Bear m
  toBearS:BearS m
  toBearZ:BearZ m
  toBearW:BearW m
theorem BearM.lanes {m:Map}(B:BearM m):m.Lanes.length≤1000000:=B.toBear.lanes
noncomputable def Uu (m:Map):Int:=
  if Ve m.Version 0 1099511627776=false then 2
  else if m.Lanes.length=0 then 6
  else if 12<m.Lanes.length∨12<m.Zones.length∨4<m.Signals.length∨8<m.Works.length then 8
  else ((I7 (laneE m.Lanes.length) 0 m.Lanes).or ((I7 (nextE m) 0 m.Lanes).or ((I7 (signalE m) 0 m.Signals).or ((I7 (zoneE m) 0 m.Zones).or (I7 (workE m) 0 m.Works))))).getD 0
theorem Bk {α:Type}{g:Nat→α→Option Int}(h: ∀i a e,g i a=some e→e≠0): ∀{l:List α} {i:Nat} {e:Int},I7 g i l=some e→e≠0
  | [],_,_,q=>by cases q
  |a::r,i,e,q=>by
   unfold I7 at q
   cases hg:g i a with
   |some e'=>rw [hg]at q;cases q;exact h i a e hg
   |none=>rw [hg]at q;exact Bk h q
theorem ES {m:Map}{i:Nat}{z:Zone}{e:Int}(h:zoneE m i z=some e):e≠0:=by
  unfold zoneE at h
  repeat' split at h
  all_goals first|(cases h;decide)|cases h
theorem Wd {m:Map}{i:Nat}{z:Signal}{e:Int}(h:signalE m i z=some e):e≠0:=by
  unfold signalE at h
  repeat' split at h
  all_goals first|(cases h;decide)|cases h
theorem KS {m:Map}{i:Nat}{z:Work}{e:Int}(h:workE m i z=some e):e≠0:=by
  unfold workE at h
  repeat' split at h
  all_goals first|(cases h;decide)|cases h
theorem KT {m:Map}{i:Nat}{z:Lane}{e:Int}(h:nextE m i z=some e):e≠0:=Bk (fun _ _ _=>ZR) h
/-- A loop that goes on as long as there is no error. -/
theorem fR {α:Type}{F:Int×Int→Option (Stp (Int×Int) Int)}(l:List α)(g:Nat→α→Option Int)(hg: ∀i a e,g i a=some e→e≠0)(hl:l.length≤1000000)
    (hF: ∀(i:Nat) a,l[i]? =some a→F (0,(i:Int))=some (.go ((g i a).getD 0,((i+1:Nat):Int)))) (h0: ∀(i:Nat) (e:Int),e≠0→F (e,(i:Int))=some (.out e)) (h1:F (0,(l.length:Int))=some (.out 0)) (e0:Option Int) (he: ∀e,e0=some e→e≠0):
    loop F (e0.getD 0,0)=some ((e0.or (I7 g 0 l)).getD 0):=by
  have key: ∀(r:List α) (i:Nat),l.drop i=r→i≤l.length→loop F (0,(i:Int))=some ((I7 g i r).getD 0):=by
    intro r
    induction r with
    |nil=>
     intro i hi hil
     have:=N8 hi
     obtain rfl:i=l.length:=by omega
     exact C5 h1
    |cons a r ih=>
     intro i hi hil
     have hlt:=M9 hi
     have hs:=hF i a (U7 hi)
     rw [J2 hs]
     unfold I7
     cases h:g i a with
     |some e=>exact C5 (h0 (i+1) e (hg i a e h))
     |none=>exact ih (i+1) (K5 hi) (by omega)
  cases e0 with
  |some e=>exact C5 (h0 0 e (he e rfl))
  |none=>exact key l 0 rfl (by omega)
theorem Sn {m:Map}(B:BearM m):Kk m=some (Uu m):=by
  have hb:=B.lanes
  unfold Kk Uu
  rw [Sm,lB]
  cases Ve m.Version 0 1099511627776
  ·rfl
  ·simp only [bW,bP,Bool.true_eq_false,if_false]
   by_cases h1:m.Lanes.length=0
   ·rw [bQ h1,h1];rfl
   ·rw [bR h1,show ((m.Lanes.length:Int)==0)=false by simp only [beq_eq_false_iff_ne];omega,bP]
    by_cases h2:12<m.Lanes.length∨12<m.Zones.length∨4<m.Signals.length∨8<m.Works.length
    ·rw [bQ h2,show ((((decide ((m.Lanes.length:Int)>12))||(decide ((m.Zones.length:Int)>12)))||(decide ((m.Signals.length:Int)>4)))||(decide ((m.Works.length:Int)>8)))=true by simp;omega];rfl
    ·rw [bR h2,show ((((decide ((m.Lanes.length:Int)>12))||(decide ((m.Zones.length:Int)>12)))||(decide ((m.Signals.length:Int)>4)))||(decide ((m.Works.length:Int)>8)))=false by simp;omega,bP]
     rw [SN B.toBear]
     cases H:I7 (laneE m.Lanes.length) 0 m.Lanes with
     |some e=>rfl
     |none=>
      have n1: ∀e,I7 (nextE m) 0 m.Lanes=some e→e≠0:=fun e h=>Bk (fun _ _ _=>KT) h
      have n2: ∀e,(I7 (nextE m) 0 m.Lanes).or (I7 (signalE m) 0 m.Signals)=some e→e≠0:=fun e h=>by
        rcases Option.or_eq_some_iff.1 h with h|⟨_,h⟩
        ·exact n1 e h
        ·exact Bk (fun _ _ _=>Wd) h
      have n3: ∀e,((I7 (nextE m) 0 m.Lanes).or (I7 (signalE m) 0 m.Signals)).or (I7 (zoneE m) 0 m.Zones)=some e→e≠0:=fun e h=>by
        rcases Option.or_eq_some_iff.1 h with h|⟨_,h⟩
        ·exact n2 e h
        ·exact Bk (fun _ _ _=>ES) h
      simp only [FV,thenS,Option.none_or]
      rw [(NK B.toBear H).2,lB]
      rw [fR m.Signals (signalE m) (fun _ _ _=>Wd) B.toBearS.many (fun i a ha=>by
       have hi:=H5 ha
       have hm:=B.toBearS.many
       unfold Hb
       dsimp only
       rw [J9 hi,C3 ha,bS,show ((0:Int)==0)=true from rfl,bO,lB,VR B.toBearS i (lG ha),G8 hi (by omega)];rfl) (fun i e he=>by
       unfold Hb
       dsimp only
       rw [show (e==0)=false by simpa using he,Bool.and_false];rfl) (by unfold Hb;dsimp only;rw [H9];rfl) _ n1,lB]
      rw [fR m.Zones (zoneE m) (fun _ _ _=>ES) B.toBearZ.many (fun i a ha=>by
       have hi:=H5 ha
       have hm:=B.toBearZ.many
       unfold Ha
       dsimp only
       rw [J9 hi,C3 ha,bS,show ((0:Int)==0)=true from rfl,bO,lB,fO B.toBear B.toBearZ ha,G8 hi (by omega)];rfl) (fun i e he=>by
       unfold Ha
       dsimp only
       rw [show (e==0)=false by simpa using he,Bool.and_false];rfl) (by unfold Ha;dsimp only;rw [H9];rfl) _ n2,lB]
      rw [fR m.Works (workE m) (fun _ _ _=>KS) B.toBearW.many (fun i a ha=>by
       have hi:=H5 ha
       have hm:=B.toBearW.many
       unfold Gz
       dsimp only
       rw [J9 hi,C3 ha,bS,show ((0:Int)==0)=true from rfl,bO,lB,fQ B.toBear (i:=i) a,G8 hi (by omega)];rfl) (fun i e he=>by
       unfold Gz
       dsimp only
       rw [show (e==0)=false by simpa using he,Bool.and_false];rfl) (by unfold Gz;dsimp only;rw [H9];rfl) _ n3,lB]
      rw [Option.or_assoc,Option.or_assoc]
theorem Oa {m:Map}(B:BearM m):Cb m=some (Uu m):=by
  have hb:=B.lanes
  have s0:O8 m 0=(Ao ⟨m⟩).bind fun v2=>cond (v2 !=0) (some (.out (.inr v2))) (some (.go 1)):=rfl
  have s1:O8 m 1=(V2 ⟨m⟩).bind fun v2=>cond (v2 !=0) (some (.out (.inr v2))) (some (.go 2)):=rfl
  have s2:O8 m 2=(T9 ⟨m⟩).bind fun v2=>cond (v2 !=0) (some (.out (.inr v2))) (some (.go 3)):=rfl
  have s3:O8 m 3=(S5 ⟨m⟩).bind fun v2=>cond (v2 !=0) (some (.out (.inr v2))) (some (.go 4)):=rfl
  have s4:O8 m 4=(V3 ⟨m⟩).bind fun v2=>cond (v2 !=0) (some (.out (.inr v2))) (some (.go 5)):=rfl
  have s5:O8 m 5=(V4 ⟨m⟩).bind fun v2=>cond (v2 !=0) (some (.out (.inr v2))) (some (.go 6)):=rfl
  have s6:O8 m 6=some (.out (.inl ())):=rfl
  have stp: ∀(i j:Int) (e:Option Int) (X:Option Int),(∀e',e=some e'→e'≠0)→X=some (e.getD 0)→O8 m i=X.bind (fun v2=>cond (v2 !=0) (some (.out (.inr v2))) (some (.go j)))→loop (O8 m) i=match e with|some e'=>some (.inr e')|none=>loop (O8 m) j:=by
    intro i j e X he hX hs
    subst hX
    rw [lB]at hs
    cases e with
    |none=>exact J2 hs
    |some e'=>
     rw [Option.getD_some,show (e' !=0)=true by simpa using he e' rfl]at hs
     exact C5 hs
  unfold Cb Uu
  have hnum:Ao ⟨m⟩=some ((if Ve m.Version 0 1099511627776=false then some 2 else if m.Lanes.length=0 then some 6 else if 12<m.Lanes.length∨12<m.Zones.length∨4<m.Signals.length∨8<m.Works.length then some 8 else none:Option Int).getD 0):=by
    unfold Ao
    dsimp only
    rw [Rm,lB]
    cases Ve m.Version 0 1099511627776
    ·rfl
    ·simp only [bW,bP,Bool.true_eq_false,if_false]
     by_cases h1:m.Lanes.length=0
     ·rw [bQ h1,h1];rfl
     ·rw [bR h1,show ((m.Lanes.length:Int)==0)=false by simp only [beq_eq_false_iff_ne];omega,bP]
      by_cases h2:12<m.Lanes.length∨12<m.Zones.length∨4<m.Signals.length∨8<m.Works.length
      ·rw [bQ h2,show ((((decide ((m.Lanes.length:Int)>12))||(decide ((m.Zones.length:Int)>12)))||(decide ((m.Signals.length:Int)>4)))||(decide ((m.Works.length:Int)>8)))=true by simp;omega];rfl
      ·rw [bR h2,show ((((decide ((m.Lanes.length:Int)>12))||(decide ((m.Zones.length:Int)>12)))||(decide ((m.Signals.length:Int)>4)))||(decide ((m.Works.length:Int)>8)))=false by simp;omega];rfl
  rw [stp 0 1 _ _ (by repeat' split
                      all_goals (intro e' h;first|(cases h;decide)|cases h)) hnum s0]
  by_cases q1:Ve m.Version 0 1099511627776=false
  ·rw [bQ q1,bQ q1];rfl
  ·rw [bR q1,bR q1]
   by_cases q2:m.Lanes.length=0
   ·rw [bQ q2,bQ q2];rfl
   ·rw [bR q2,bR q2]
    by_cases q3:12<m.Lanes.length∨12<m.Zones.length∨4<m.Signals.length∨8<m.Works.length
    ·rw [bQ q3,bQ q3];rfl
    ·rw [bR q3,bR q3]
     dsimp only
     rw [stp 1 2 _ _ (fun e' h=>Bk (fun _ _ _=>KN) h) (fJ B.toBear) s1]
     cases H:I7 (laneE m.Lanes.length) 0 m.Lanes with
     |some e=>rfl
     |none=>
      dsimp only
      rw [stp 2 3 _ _ (fun e' h=>Bk (fun _ _ _=>KT) h) (NK B.toBear H).1 s2]
      cases I7 (nextE m) 0 m.Lanes with
      |some e=>rfl
      |none=>
       dsimp only
       rw [stp 3 4 _ _ (fun e' h=>Bk (fun _ _ _=>Wd) h) (VQ B.toBear B.toBearS) s3]
       cases I7 (signalE m) 0 m.Signals with
       |some e=>rfl
       |none=>
        dsimp only
        rw [stp 4 5 _ _ (fun e' h=>Bk (fun _ _ _=>ES) h) (fN B.toBear B.toBearZ) s4]
        cases I7 (zoneE m) 0 m.Zones with
        |some e=>rfl
        |none=>
         dsimp only
         rw [stp 5 6 _ _ (fun e' h=>Bk (fun _ _ _=>KS) h) (fP B.toBear B.toBearW) s5]
         cases I7 (workE m) 0 m.Works with
         |some e=>rfl
         |none=>dsimp only;rw [C5 s6];rfl
/-- What a valid map is. -/
structure ValR (m:Map):Prop where
  ver:0≤m.Version∧m.Version≤1099511627776
  pos:0<m.Lanes.length
  lanes:m.Lanes.length≤12
  zones:m.Zones.length≤12
  signals:m.Signals.length≤4
  works:m.Works.length≤8
  laneE:I7 (laneE m.Lanes.length) 0 m.Lanes=none
  nextE:I7 (nextE m) 0 m.Lanes=none
  signalE:I7 (signalE m) 0 m.Signals=none
  zoneE:I7 (zoneE m) 0 m.Zones=none
  workE:I7 (workE m) 0 m.Works=none
theorem ZT {α:Type}{g:Nat→α→Option Int}{l:List α}(h: ∀i a e,g i a=some e→e≠0)(h0:(I7 g 0 l).getD 0=0):I7 g 0 l=none:=by
  cases q:I7 g 0 l with
  |none=>rfl
  |some e=>rw [q]at h0;exact absurd h0 (Bk h q)
theorem chkR_zero {m:Map}:Uu m=0↔ValR m:=by
  unfold Uu
  constructor
  ·intro h
   split at h
   ·cases h
   ·rename_i h1
    split at h
    ·cases h
    ·rename_i h2
     split at h
     ·cases h
     ·rename_i h3
      simp only [Ve,Bool.not_eq_false,bU,bM]at h1
      have key: ∀{o r:Option Int},(∀e,o=some e→e≠0)→(o.or r).getD 0=0→o=none∧r.getD 0=0:=by
        intro o r ho hr
        cases o with
        |none=>exact ⟨rfl,hr⟩
        |some e=>exact absurd hr (ho e rfl)
      obtain ⟨a1,h⟩:=key (fun e h=>Bk (fun _ _ _=>KN) h) h
      obtain ⟨a2,h⟩:=key (fun e h=>Bk (fun _ _ _=>KT) h) h
      obtain ⟨a3,h⟩:=key (fun e h=>Bk (fun _ _ _=>Wd) h) h
      obtain ⟨a4,h⟩:=key (fun e h=>Bk (fun _ _ _=>ES) h) h
      exact ⟨h1,by omega,by omega,by omega,by omega,by omega,a1,a2,a3,a4,ZT (fun _ _ _=>KS) h⟩
  ·rintro ⟨h1,h2,h3,h4,h5,h6,a1,a2,a3,a4,a5⟩
   rw [bR (by simp only [Ve,Bool.not_eq_false,bU,bM];exact h1),bR (by omega),bR (by omega),a1,a2,a3,a4,a5];rfl
section
variable {m:Map}
theorem ValR.laneOK (V:ValR m){i:Nat}{l:Lane}(h:m.Lanes[i]? =some l):LaneOK m.Lanes.length i l:=Za V.laneE h
theorem ValR.next (V:ValR m){i:Nat}{l:Lane}(h:m.Lanes[i]? =some l){k:Int}(hk:k∈l.Next):(i:Int)<k∧k<m.Lanes.length:=by
  have:=Lf (V.laneOK h).next k hk
  omega
end
/-- The lanes in which a lane goes on. -/
def nextOf (m:Map)(a:Nat):List Int:=((m.Lanes[a]?).map (·.Next)).getD []
theorem ValR.nextOf {m:Map}(V:ValR m){a:Nat}{k:Int}(hk:k∈World.nextOf m a):(a:Int)<k∧k<m.Lanes.length:=by
  unfold World.nextOf at hk
  cases h:m.Lanes[a]? with
  |none=>rw [h]at hk;cases hk
  |some l=>rw [h]at hk;exact V.next h hk
def So (m:Map)(b:Int):Nat→Nat→Bool
  |0,_=>false
  |n+1,a=>(nextOf m a).any fun k=>k==b||So m b n k.toNat
theorem SR {m:Map}(V:ValR m)(b:Int): ∀(n n' a:Nat),m.Lanes.length≤a+n→m.Lanes.length≤a+n'→So m b n a=So m b n' a:=by
  intro n
  induction n with
  |zero=>
   intro n' a h h'
   have:nextOf m a= []:=by
     unfold nextOf
     rw [lJ (by omega)];rfl
   cases n' with
   |zero=>rfl
   |succ n'=>rw [So,So,this];rfl
  |succ n ih=>
   intro n' a h h'
   cases n' with
   |zero=>
    have:nextOf m a= []:=by
      unfold nextOf
      rw [lJ (by omega)];rfl
    rw [So,So,this];rfl
   |succ n'=>
    rw [So,So]
    rw [Bool.eq_iff_iff,lZ,lZ]
    refine exists_congr fun k=>and_congr_right fun hk=> ?_
    have:=V.nextOf hk
    rw [ih n' k.toNat (by omega) (by omega)]
/-- Does a lane lead to another one? -/
def Sp (m:Map)(a:Nat)(b:Int):Bool:=So m b m.Lanes.length a
theorem Zs {m:Map}(V:ValR m)(a:Nat)(b:Int):Sp m a b=(nextOf m a).any fun k=>k==b||Sp m k.toNat b:=by
  unfold Sp
  rw [SR V b _ (m.Lanes.length+1) a (by omega) (by omega),So]
/-- What is known of the sets of the lanes from a number on. -/
structure Reach (m:Map)(i:Nat)(l:List Nat):Prop where
  len:l.length=12
  small: ∀(a x:Nat),l[a]? =some x→x<2^32
  zero: ∀(a:Nat),a<i→l[a]? =some 0
  bits: ∀(a x:Nat),i≤a→a<m.Lanes.length→l[a]? =some x→∀b:Nat,x.testBit b=Sp m a (b:Int)
theorem Reach.get {m:Map}{i:Nat}{l:List Nat}(R:Reach m i l){a:Nat}(h:a<12): ∃x,l[a]? =some x∧x<2^32:=by
  have:=R.len
  exact ⟨l[a],lH (by omega),R.small a _ (lH (by omega))⟩
theorem NL {m:Map}(V:ValR m){b:Int}: ∀(n a:Nat),m.Lanes.length≤a+n→Sp m a b=true→(a:Int)<b∧b<m.Lanes.length
  |0,a,hn,h=>by
   rw [Zs V]at h
   have:nextOf m a= []:=by
     unfold nextOf
     rw [lJ (by omega)];rfl
   rw [this]at h
   cases h
  |n+1,a,hn,h=>by
   rw [Zs V,lZ]at h
   obtain ⟨k,hk,h⟩:=h
   have:=V.nextOf hk
   rcases bV _ _▸h with h|h
   ·have:=eq_of_beq h;omega
   ·have:=NL V n k.toNat (by omega) h;omega
theorem fS {m:Map}(V:ValR m){a:Nat}{b:Int}(h:Sp m a b=true):(a:Int)<b∧b<m.Lanes.length:=NL V m.Lanes.length a (by omega) h
theorem GZ {m:Map}(V:ValR m){b:Nat}{c:Int}(h2:Sp m b c=true): ∀(n a:Nat),m.Lanes.length≤a+n→Sp m a (b:Int)=true→Sp m a c=true
  |0,a,hn,h=>by have:=fS V h;omega
  |n+1,a,hn,h=>by
   rw [Zs V,lZ]at h ⊢
   obtain ⟨k,hk,h⟩:=h
   have:=V.nextOf hk
   refine ⟨k,hk,?_⟩
   rcases bV _ _▸h with h|h
   ·have e:=eq_of_beq h
    subst e
    rw [wF,h2,Bool.or_true]
   ·rw [GZ V h2 n k.toNat (by omega) h,Bool.or_true]
/-! ### Is a lane there? -/
noncomputable def QG (m:Map)(k:Int):Bool:=(decide (k≥0)&&decide (k<m.Lanes.length))&& (Uu m==0)
theorem isM_true {m:Map}{k:Int}:QG m k=true↔0≤k∧k<m.Lanes.length∧ValR m:=by
  unfold QG
  rw [bU,bU,wB,chkR_zero]
  simp only [bM,and_assoc,ge_iff_le]
theorem Zc {m:Map}(B:BearM m)(k:Int):Lu m k=some (QG m k):=by
  unfold Lu QG
  rw [Oa B]
  cases (decide (k≥0)&&decide (k< (m.Lanes.length:Int)))<;>rfl
theorem Ub {m:Map}(B:BearM m)(k:Int):Mp m k=some (QG m k):=by
  unfold Mp QG
  rw [Sn B]
  cases (decide (k≥0)&&decide (k< (m.Lanes.length:Int)))<;>rfl
theorem Wz {m:Map}(B:BearM m){k:Int}(h0:0≤k)(h1:k<m.Lanes.length):Ky m k=some (Q3 m k):=by
  obtain ⟨l,e1,e2⟩:=KR B.toBear h0 h1
  unfold Ky
  rw [e1,lB,e2];rfl
noncomputable def Dh (m:Map)(k:Int):Int:=if QG m k then Q3 m k else 0
theorem Jf {m:Map}(B:BearM m)(k:Int):Bs m k=some (Dh m k):=by
  unfold Bs Dh
  rw [Zc B,lB]
  cases h:QG m k
  ·rfl
  ·have:=isM_true.1 h
   rw [bQ rfl,bW,bP,IG B.toBear this.1 this.2.1];rfl
theorem Qm {m:Map}(B:BearM m)(k:Int):La m k=some (Dh m k):=by
  unfold La Dh
  rw [Ub B,lB]
  cases h:QG m k
  ·rfl
  ·have:=isM_true.1 h
   rw [bQ rfl,bW,bP,Wz B this.1 this.2.1];rfl
theorem Zd (l:List Int)(hl:l.length≤1000000)(k:Int):N4 l k=some (l.contains k):=by
  unfold N4 R4
  rw [Qa l (fun x=>k==x) (by omega) (fun i a h=>by
   have hi:=H5 h
   unfold T3
   rw [J9 hi,C3 h,bO,lB]
   cases k==a<;>rfl) (by unfold T3;rw [H9];rfl)]
  rw [lB,Us,List.contains_eq_any_beq]
theorem VS (l:List Int)(hl:l.length≤1000000)(k:Int):Ox l k=some (l.contains k):=by
  unfold Ox
  rw [GY l (fun x=>x==k) true (fun i a h=>by
   have hi:=H5 h
   unfold Nz
   rw [J9 hi,C3 h,bO,lB,G8 hi (by omega)]
   cases a==k<;>rfl) (by unfold Nz;rw [H9];rfl)]
  rw [List.contains_eq_any_beq,show (fun x=>x==k)=(fun x=>k==x) from funext fun x=>by rw [Bool.beq_comm]]
  cases l.any fun x=>k==x<;>rfl
/-- What comes before a lane. -/
def Cp (m:Map)(k:Int):List Int:=Gl (fun i (l:Lane)=>if l.Next.contains k then some (i:Int)else none) 0 m.Lanes
theorem ZU {m:Map}(B:BearM m)(k:Int):Fd m k=some (Cp m k):=by
  unfold Fd Cp
  have hb:=B.lanes
  rw [FY m.Lanes (fun i (l:Lane)=>if l.Next.contains k then some (i:Int)else none) id (fun i l s h hs=>by
   have hi:=H5 h
   unfold Ar
   dsimp only
   rw [J9 hi,C3 h,bO,lB,Zd _ (B.toBear.pts l (lG h)).2,lB,Ey (by simp;omega),G8 hi (by omega)]
   cases l.Next.contains k<;>rfl) (fun s=>by unfold Ar;rw [H9];rfl)]
  rfl
theorem KU {m:Map}(B:BearM m)(k:Int):Kx m k=some (Cp m k):=by
  unfold Kx Cp
  have hb:=B.lanes
  rw [FY m.Lanes (fun i (l:Lane)=>if l.Next.contains k then some (i:Int)else none) id (fun i l s h hs=>by
   have hi:=H5 h
   unfold Jd
   dsimp only
   rw [J9 hi,C3 h,bO,lB,VS _ (B.toBear.pts l (lG h)).2,lB,Ey (by simp;omega),G8 hi (by omega)]
   cases l.Next.contains k<;>rfl) (fun s=>by unfold Jd;rw [H9];rfl)]
  rfl
def T4 (m:Map):List Int:=Gl (fun i (_:Lane)=>if (Cp m (i:Int)).length=0 then some (i:Int)else none) 0 m.Lanes
theorem SS {m:Map}(B:BearM m):Lw m=some (T4 m):=by
  unfold Lw T4
  have hb:=B.lanes
  rw [FY m.Lanes (fun i (_:Lane)=>if (Cp m (i:Int)).length=0 then some (i:Int)else none) id (fun i l s h hs=>by
   have hi:=H5 h
   unfold Hh
   dsimp only
   rw [J9 hi,bO,KU B,lB,Ey (by simp;omega),G8 hi (by omega)]
   by_cases q:(Cp m (i:Int)).length=0
   ·rw [bQ q,q];rfl
   ·rw [bR q,show (((Cp m (i:Int)).length:Int)==0)=false by simp only [beq_eq_false_iff_ne];omega];rfl) (fun s=>by unfold Hh;rw [H9];rfl)]
  rfl
def Jv (z:Zone)(k:Int):Part×Bool:=match z.Parts.find? (fun p=>p.Lane_==k)with|some p=>(p,true)|none=>(⟨0,0,0,0⟩,false)
theorem jY {z:Zone}(hl:z.Parts.length≤1000000)(k:Int):Kd z k=some (Jv z k):=by
  unfold Kd K4 Jv
  rw [Qa z.Parts (fun p=>p.Lane_==k) (by omega) (fun i a h=>by
   have hi:=H5 h
   unfold M5 Ns
   rw [J9 hi,C3 h,bO,lB,lB]
   cases a.Lane_==k<;>rfl) (by unfold M5;rw [H9];rfl),lB]
  unfold EQ
  cases h:z.Parts.findIdx? (fun p=>p.Lane_==k)with
  |none=>
   have:z.Parts.find? (fun p=>p.Lane_==k)=none:=by
     rw [List.find?_eq_none]
     have:=List.findIdx?_eq_none_iff.1 h
     intro x hx;simpa using this x hx
   rw [this];rfl
  |some i=>
   obtain ⟨hi,h1,h2⟩:=List.findIdx?_eq_some_iff_getElem.1 h
   have:z.Parts.find? (fun p=>p.Lane_==k)=some z.Parts[i]:=by
     rw [List.find?_eq_some_iff_getElem]
     exact ⟨h1,i,hi,rfl,fun j hj=>by simpa using h2 j hj⟩
   rw [this]
   dsimp only
   rw [show decide ((i:Int)<0)=false from bK (by omega),bP,eP hi];rfl
structure ZoneOK (m:Map)(z:Zone):Prop where
  two:2≤z.Parts.length
  six:z.Parts.length≤6
  sig:0≤z.Signal_∧z.Signal_≤m.Signals.length
  rise:Co m.Lanes.length 0 (z.Parts.map (·.Lane_))=true
  part: ∀p∈z.Parts,0≤p.From∧p.From<p.To∧p.To≤Q3 m p.Lane_∧0≤p.Rank∧p.Rank≤100
theorem VT {m:Map}{i:Nat}{z:Zone}(h:zoneE m i z=none):ZoneOK m z:=by
  unfold zoneE at h
  split at h
  ·cases h
  ·rename_i h1
   split at h
   ·cases h
   ·rename_i h2
    split at h
    ·cases h
    ·rename_i h3
     split at h
     ·cases h
     ·rename_i h4
      split at h
      ·cases h
      ·rename_i h5
       refine ⟨by omega,by omega,by omega,by simpa using h4,fun p hp=> ?_⟩
       have:=List.any_eq_false.1 (bZ.2 h5) p hp
       simp only [Tk,bV,bM,not_or,Int.not_lt,Int.not_le,ge_iff_le,gt_iff_lt]at this
       omega
theorem ValR.zoneOK {m:Map}(V:ValR m){z:Zone}(hz:z∈m.Zones):ZoneOK m z:=by
  obtain ⟨i,hi,rfl⟩:=List.mem_iff_getElem.1 hz
  have:=firstE_none.1 V.zoneE i _ (lH hi)
  exact VT this
theorem ZoneOK.lane {m:Map}{z:Zone}(O:ZoneOK m z){p:Part}(hp:p∈z.Parts):0≤p.Lane_∧p.Lane_<m.Lanes.length:=Lf O.rise p.Lane_ (List.mem_map.2 ⟨p,hp,rfl⟩)
theorem XT {m:Map}{k:Int}(h0:0≤k)(h1:k<m.Zones.length): ∃z,m.Zones[k.toNat]? =some z∧C0 m.Zones k=some z:=by
  have hlt:k.toNat<m.Zones.length:=by omega
  refine ⟨m.Zones[k.toNat],lH hlt,?_⟩
  unfold C0
  rw [bQ h0,lH hlt]
theorem fT:Hz=some true:=law04_awake_le _ (by decide+kernel)
theorem Ir (n:Int){m:Int}(hm:0<m):0≤n % m∧n % m<m:=⟨wR n (by omega),wS n hm⟩
theorem NM {n m:Int}(hm:0<m):n % m=if n.tmod m<0 then n.tmod m+m else n.tmod m:=by
  have a:=wR n (show m≠0 by omega)
  have b:=wS n hm
  rw [Int.tmod_eq_emod]
  by_cases q:0≤n∨m ∣ n
  ·rw [bQ q,bR (by omega)];omega
  ·rw [bR q]
   have:n % m≠0:=fun e=>q (.inr (Int.dvd_of_emod_eq_zero e))
   rw [bQ (by omega)];omega
theorem Sq {n m:Int}(hm:0<m)(hm2:m≤9223372036854775807):Qy n m=some (n % m):=by
  have h1:=NM (n:=n) hm
  have a:=Ir n hm
  unfold Qy Vk
  rw [bR (by omega),lB]
  by_cases q:n.tmod m<0
  ·rw [bQ q]at h1
   rw [bJ q,bO,F2 (by omega),← h1]
  ·rw [bR q]at h1
   rw [bK q,bP,← h1]
theorem We {n m:Int}(hm:0<m)(hm2:m≤9223372036854775807):Pd n m=some (n % m):=by
  have h1:=NM (n:=n) hm
  have a:=Ir n hm
  unfold Pd Vk
  rw [bR (by omega),lB]
  by_cases q:n.tmod m<0
  ·rw [bQ q]at h1
   rw [bJ q,bO,F2 (by omega),← h1]
  ·rw [bR q]at h1
   rw [bK q,bP,← h1]
def PW (kind lim:Int)(next:List Int)(a b c d:Int):Lane:=⟨kind,⟨[⟨a,b⟩,⟨c,d⟩]⟩,if kind=3 then 500 else 1500,lim,next⟩
theorem jZ (kind lim:Int)(next:List Int)(a b c d:Int):U2 kind lim next [a,b,c,d]=some (PW kind lim next a b c d):=by
  unfold U2 PW
  rw [J2 (s':=(2,[⟨a,b⟩])) rfl,J2 (s':=(4,[⟨a,b⟩,⟨c,d⟩])) rfl,C5 (t:= [⟨a,b⟩,⟨c,d⟩]) rfl,lB]
  by_cases h:kind=3
  ·rw [bQ h,h];rfl
  ·rw [bR h,show (kind==3)=false by simpa using h];rfl
def oQ (off a b:Int):Signal:=⟨off,[⟨12,[a]⟩,⟨5,[]⟩,⟨9,[b]⟩,⟨4,[]⟩]⟩
/-- The numbers of which a map of the kit is made. -/
structure Par where
  lim:Int
  r:Int
  o:Int
  o':Int
  ver:Int
  wk:List Work
structure ParOK (p:Par):Prop where
  lim:p.lim=1500∨p.lim=600∨p.lim=1000∨p.lim=300
  r:p.r=0∨p.r=1
  o:0≤p.o∧p.o<31
  o':0≤p.o'∧p.o'<31
  ver:0≤p.ver∧p.ver<5
  wk:p.wk= []∨∃b l,0≤b∧b<40∧0≤l∧l≤400∧p.wk= [⟨0,10000,15000,b,b+20,l⟩]
def Mr (k:Nat)(lim:Int):List Lane:=match k with
  |0=> [PW 1 lim [] 0 0 60000 0]
  |1|2=> [PW 1 lim [] 0 0 50000 0,PW 1 1500 [] 30000 (-20000) 30000 20000]
  |3=> [PW 1 lim [1,2] 0 0 30000 0,PW 1 1500 [] 30000 0 60000 0,PW 1 800 [] 30000 0 54000 10000]
  |4=> [PW 1 lim [2] 0 0 30000 0,PW 1 1500 [2] 6000 (-10000) 30000 0,PW 1 1500 [] 30000 0 60000 0]
  |5=> [PW 1 lim [1] 0 0 20000 0,PW 1 lim [] 20000 0 50000 0,PW 3 200 [] 35000 (-8000) 35000 8000]
  |_=> [PW 1 lim [1,2] 0 0 20000 0,PW 1 1500 [] 20000 0 50000 0,PW 1 1000 [] 20000 0 44000 10000,PW 2 700 [] 36000 (-12000) 36000 18000]
def CN (k:Nat)(r:Int):List Zone:=match k with
  |1=> [⟨[⟨0,28000,32000,r⟩,⟨1,18000,22000,2 - 2*r⟩],0⟩]
  |2=> [⟨[⟨0,28000,32000,r⟩,⟨1,18000,22000,2 - 2*r⟩],1⟩]
  |4=> [⟨[⟨0,25000,30000,1⟩,⟨1,20000,26000,0⟩,⟨2,0,5000,0⟩],0⟩]
  |5=> [⟨[⟨1,14000,16000,0⟩,⟨2,6000,10000,3⟩],0⟩]
  |6=> [⟨[⟨1,14000,18000,1⟩,⟨3,10000,14000,0⟩],0⟩,⟨[⟨2,14000,21000,1⟩,⟨3,14500,23000,0⟩],0⟩]
  |7=> [⟨[⟨1,14000,18000,1⟩,⟨3,10000,14000,0⟩],1⟩,⟨[⟨2,14000,21000,1⟩,⟨3,14500,23000,0⟩],2⟩]
  |_=> []
def Uv (k:Nat)(o o':Int):List Signal:=match k with
  |2=> [oQ o 0 1]
  |7=> [oQ o 1 3,oQ o' 2 3]
  |_=> []
def ET (k:Nat)(p:Par):Map:=⟨p.ver,Mr k p.lim,CN k p.r,Uv k p.o p.o',p.wk⟩
theorem VU (n:Int): ∃k p,k<8∧ParOK p∧Zr n=some (ET k p):=by
  obtain ⟨h0,h1⟩:=Ir n (show (0:Int)<16777216 by decide)
  unfold Zr
  rw [Sq (by decide) (by decide),lB]
  generalize n % 16777216=v at h0 h1
  have t: ∀m:Int,0<m→v.tdiv m=v / m:=fun m hm=>by rw [wP h0]
  have u: ∀x m:Int,0≤x→x.tmod m=x % m:=fun x m hx=>by rw [wQ hx]
  have d: ∀m:Int,0<m→0≤v / m∧v / m<16777216:=fun m hm=>⟨Int.ediv_nonneg h0 (by omega),Int.lt_of_le_of_lt (Int.ediv_le_self m h0) h1⟩
  have W: ∀m:Int,0<m→D6 (v / m)=v / m:=fun m hm=>F2 (by have:=d m hm;omega)
  rw [t 7 (by decide),t 28 (by decide),t 56 (by decide),t 1736 (by decide),t 5208 (by decide),t 208320 (by decide)]
  rw [W 7 (by decide),W 28 (by decide),W 56 (by decide),W 1736 (by decide),W 5208 (by decide),W 208320 (by decide)]
  rw [u (v / 7) _ (d 7 (by decide)).1,u (v / 28) 2 (d 28 (by decide)).1,u (v / 28) 31 (d 28 (by decide)).1,u (v / 56) 31 (d 56 (by decide)).1,u (v / 56) 17 (d 56 (by decide)).1,u (v / 1736) _ (d 1736 (by decide)).1,u (v / 5208) _ (d 5208 (by decide)).1,u (v / 208320) _ (d 208320 (by decide)).1,u v _ h0,u (v / 28) 5 (d 28 (by decide)).1]
  have b1:=Ir (v / 7) (show (0:Int)<4 by decide)
  have b2:=Ir (v / 28) (show (0:Int)<2 by decide)
  have b3:=Ir (v / 28) (show (0:Int)<31 by decide)
  have b4:=Ir (v / 56) (show (0:Int)<31 by decide)
  have b5:=Ir (v / 56) (show (0:Int)<17 by decide)
  have b6:=Ir (v / 5208) (show (0:Int)<40 by decide)
  have b7:=Ir (v / 208320) (show (0:Int)<3 by decide)
  have b8:=Ir v (show (0:Int)<7 by decide)
  have b9:=Ir (v / 28) (show (0:Int)<5 by decide)
  generalize v / 7 % 4=q1 at b1
  generalize v / 28 % 2=q2 at b2
  generalize v / 28 % 31=q3 at b3
  generalize v / 56 % 31=q4 at b4
  generalize v / 56 % 17=q5 at b5
  generalize v / 5208 % 40=q6 at b6
  generalize v / 208320 % 3=q7 at b7
  generalize v % 7=q8 at b8
  generalize v / 28 % 5=q9 at b9
  have e1: ∃lim:Int,C0 ([1500,600,1000,300]:List Int) q1=some lim∧(lim=1500∨lim=600∨lim=1000∨lim=300):=by
    rcases (show q1=0∨q1=1∨q1=2∨q1=3 by omega)with rfl|rfl|rfl|rfl
    ·exact ⟨1500,rfl,by decide⟩
    ·exact ⟨600,rfl,by decide⟩
    ·exact ⟨1000,rfl,by decide⟩
    ·exact ⟨300,rfl,by decide⟩
  obtain ⟨lim,e1,hlim⟩:=e1
  rw [e1,lB]
  have ew: ∀(L:List Lane) (Z:List Zone) (S:List Signal),∃wk,(wk= []∨∃b l,0≤b∧b<40∧0≤l∧l≤400∧wk= [⟨0,10000,15000,b,b+20,l⟩])∧
   (cond (v / 1736 % 3==1) (some (Map.mk q9 L Z S [(Work.mk 0 10000 15000 q6 (D6 (q6+20)) (D6 (q7*200)))])) (some (Map.mk q9 L Z S [])))=some ⟨q9,L,Z,S,wk⟩:=by
    intro L Z S
    cases v / 1736 % 3==1
    ·exact ⟨[], .inl rfl,rfl⟩
    ·exact ⟨[⟨0,10000,15000,q6,q6+20,q7*200⟩], .inr ⟨q6,q7*200,by omega,by omega,by omega,by omega,rfl⟩,by rw [F2 (by omega),F2 (by omega)];rfl⟩
  have er:D6 (2 - D6 (2*q2))=2 - 2*q2:=by rw [F2 (n:=2*q2) (by omega),F2 (by omega)]
  rw [er]
  simp only [jZ,lB]
  have fin: ∀(k:Nat) (o o':Int) (L:List Lane) (Z:List Zone) (S:List Signal),k<8→0≤o∧o<31→0≤o'∧o'<31→L=Mr k lim→Z=CN k q2→S=Uv k o o'→∃k p,k<8∧ParOK p∧(cond (v / 1736 % 3==1) (some (Map.mk q9 L Z S [(Work.mk 0 10000 15000 q6 (D6 (q6+20)) (D6 (q7*200)))])) (some (Map.mk q9 L Z S [])))=some (ET k p):=by
    intro k o o' L Z S hk h1 h2 e1 e2 e3
    obtain ⟨wk,w1,w2⟩:=ew L Z S
    subst e1 e2 e3
    exact ⟨k,⟨lim,q2,o,o',q9,wk⟩,hk,⟨hlim,by dsimp only;omega,h1,h2,b9,w1⟩,w2⟩
  rcases (show q8=0∨q8=1∨q8=2∨q8=3∨q8=4∨q8=5∨q8=6 by omega)with rfl|rfl|rfl|rfl|rfl|rfl|rfl
  ·exact fin 0 0 0 _ _ _ (by decide) (by decide) (by decide) rfl rfl rfl
  ·exact fin 1 0 0 _ _ _ (by decide) (by decide) (by decide) rfl rfl rfl
  ·exact fin 2 q3 0 _ _ _ (by decide) b3 (by decide) rfl rfl rfl
  ·exact fin 3 0 0 _ _ _ (by decide) (by decide) (by decide) rfl rfl rfl
  ·exact fin 4 0 0 _ _ _ (by decide) (by decide) (by decide) rfl rfl rfl
  ·exact fin 5 0 0 _ _ _ (by decide) (by decide) (by decide) rfl rfl rfl
  ·rcases (show q2=0∨q2=1 by omega)with rfl|rfl
   ·exact fin 6 0 0 _ _ _ (by decide) (by decide) (by decide) rfl rfl rfl
   ·exact fin 7 q4 q5 _ _ _ (by decide) b4 (by omega) rfl rfl rfl
theorem ZV:((List.range 8).all fun k=>([1500,600,1000,300]:List Int).all fun lim=>([0,1]:List Int).all fun r=>(@Cb V9) (ET k ⟨lim,r,0,0,0,[]⟩)==some 0)=true:=by decide+kernel
theorem ST (k:Nat)(lim:Int):(Mr k lim).length≤4∧∀l∈Mr k lim,l.Curve_.Pts.length=2∧l.Next.length≤2:=by
  unfold Mr
  split<;>simp [PW]
theorem HA (k:Nat)(r:Int):(CN k r).length≤2∧∀z∈CN k r,z.Parts.length≤3:=by
  unfold CN
  split<;>simp
theorem VV (k:Nat)(o o':Int):(Uv k o o').length≤2∧∀s∈Uv k o o',s.Phases.length=4∧∀p∈s.Phases,p.Green.length≤1:=by
  unfold Uv
  split<;>simp [oQ]
theorem XU {m:Map}{k:Nat}{lim r o o':Int}(h1:m.Lanes=Mr k lim)(h2:m.Zones=CN k r)(h3:m.Signals=Uv k o o')(h4:m.Works.length≤1):BearM m:=by
  obtain ⟨a1,a2⟩:=ST k lim
  obtain ⟨b1,b2⟩:=HA k r
  obtain ⟨c1,c2⟩:=VV k o o'
  refine ⟨⟨by rw [h1];omega,fun l hl=> ?_⟩,⟨by rw [h3];omega,fun s hs=>⟨?_,fun p hp=> ?_⟩⟩,⟨by rw [h2];omega,fun z hz=> ?_⟩,⟨by omega⟩⟩
  ·rw [h1]at hl;have:=a2 l hl;omega
  ·rw [h3]at hs;have:=(c2 s hs).1;omega
  ·rw [h3]at hs;have:=(c2 s hs).2 p hp;omega
  ·rw [h2]at hz;have:=b2 z hz;omega
theorem ParOK.wk1 {p:Par}(h:ParOK p):p.wk.length≤1:=by
  rcases h.wk with e|⟨b,l,_,_,_,_,e⟩<;>rw [e]<;>simp
theorem fU {k:Nat}{p:Par}(h:ParOK p):BearM (ET k p):=XU rfl rfl rfl h.wk1
theorem pN {k:Nat}{p:Par}(hk:k<8)(h:ParOK p):ValR (ET k ⟨p.lim,p.r,0,0,0,[]⟩):=by
  have h1:=lY.1 ZV k (List.mem_range.2 hk)
  have h2:=lY.1 h1 p.lim (by have:=h.lim;simp;omega)
  have h3:=lY.1 h2 p.r (by have:=h.r;simp;omega)
  have h4:=roads_Check_le _ _ (eq_of_beq h3)
  have h5:=Oa (m:=ET k ⟨p.lim,p.r,0,0,0,[]⟩) (XU rfl rfl rfl (wI 1))
  rw [h4]at h5
  exact chkR_zero.1 (lD h5).symm
/-- Another version, other offsets, other works. -/
theorem ValR.change {L:List Lane}{Z:List Zone}{S S':List Signal}{W W':List Work}{v v':Int}(V:ValR ⟨v,L,Z,S,W⟩)(hv:0≤v'∧v'≤1099511627776)(hl:S'.length=S.length)(hs: ∀s∈S',World.signalE ⟨v,L,Z,S,W⟩ 0 s=none)(hw:W'.length≤8)(hw': ∀w∈W',World.workE ⟨v,L,Z,S,W⟩ 0 w=none):ValR ⟨v',L,Z,S',W'⟩:=by
  refine ⟨hv,V.pos,V.lanes,V.zones,by show S'.length≤4;rw [hl];exact V.signals,hw,V.laneE,V.nextE,?_,?_,?_⟩
  ·rw [firstE_none]
   intro j a ha
   exact hs a (lG ha)
  ·have:=V.zoneE
   rw [firstE_none]at this ⊢
   intro j a ha
   have:=this j a ha
   unfold World.zoneE at this ⊢
   dsimp only at this ⊢
   rw [hl]
   exact this
  ·rw [firstE_none]
   intro j a ha
   exact hw' a (lG ha)
theorem ZW (k:Nat)(o o' a a':Int):(Uv k o o').length=(Uv k a a').length:=by unfold Uv;split<;>rfl
theorem fV {k:Nat}{o o':Int}(h:0≤o∧o<31)(h':0≤o'∧o'<31){m:Map}(hm:m.Lanes.length=(Mr k 0).length): ∀s∈Uv k o o',signalE m 0 s=none:=by
  have key: ∀(off a b:Int),0≤off∧off<31→0≤a∧a<m.Lanes.length→0≤b∧b<m.Lanes.length→signalE m 0 (oQ off a b)=none:=by
    intro off a b h1 h2 h3
    unfold signalE oQ
    simp only [lL,lN]
    rw [bR (by decide),bR (by decide),bR (by simp [Ve];omega),bR (by simp [Ve]),bR]
    simp only [bH,List.any_nil,Co,Bool.and_true,Bool.or_false,bW,bY,bV,Bool.not_eq_true',not_or,Bool.not_eq_false,bU,bM]
    omega
  intro s hs
  unfold Uv at hs
  split at hs
  ·rw [show (Mr 2 0).length=2 from rfl]at hm
   simp only [bI]at hs
   subst hs
   exact key _ _ _ h (by omega) (by omega)
  ·rw [show (Mr 7 0).length=4 from rfl]at hm
   simp only [lU,List.not_mem_nil,or_false]at hs
   rcases hs with rfl|rfl
   ·exact key _ _ _ h (by omega) (by omega)
   ·exact key _ _ _ h' (by omega) (by omega)
  ·cases hs
theorem VW (k:Nat)(lim:Int):(Mr k lim).length=(Mr k 0).length:=by unfold Mr;split<;>rfl
theorem Zt (c:Int)(h:(@Dd V9) ⟨[⟨0,0⟩,⟨c,0⟩]⟩=some c):Ra ⟨[⟨0,0⟩,⟨c,0⟩]⟩=c:=by
  have h1:=curve_Length_le _ _ h
  rw [Wx _ (by simp)]at h1
  exact lD h1
/-- The first lane of a map of the kit: a road, long enough. -/
theorem HB (k:Nat)(lim:Int): ∃l,(Mr k lim)[0]? =some l∧l.Kind=1∧l.Limit=lim∧20000≤Ra l.Curve_∧Ra l.Curve_≤60000:=by
  have e6:=Zt 60000 (by decide+kernel)
  have e5:=Zt 50000 (by decide+kernel)
  have e3:=Zt 30000 (by decide+kernel)
  have e2:=Zt 20000 (by decide+kernel)
  unfold Mr
  split
  ·exact ⟨_,rfl,rfl,rfl,by show 20000≤Ra ⟨[⟨0,0⟩,⟨60000,0⟩]⟩∧Ra ⟨[⟨0,0⟩,⟨60000,0⟩]⟩≤60000;rw [e6];decide⟩
  ·exact ⟨_,rfl,rfl,rfl,by show 20000≤Ra ⟨[⟨0,0⟩,⟨50000,0⟩]⟩∧Ra ⟨[⟨0,0⟩,⟨50000,0⟩]⟩≤60000;rw [e5];decide⟩
  ·exact ⟨_,rfl,rfl,rfl,by show 20000≤Ra ⟨[⟨0,0⟩,⟨50000,0⟩]⟩∧Ra ⟨[⟨0,0⟩,⟨50000,0⟩]⟩≤60000;rw [e5];decide⟩
  ·exact ⟨_,rfl,rfl,rfl,by show 20000≤Ra ⟨[⟨0,0⟩,⟨30000,0⟩]⟩∧Ra ⟨[⟨0,0⟩,⟨30000,0⟩]⟩≤60000;rw [e3];decide⟩
  ·exact ⟨_,rfl,rfl,rfl,by show 20000≤Ra ⟨[⟨0,0⟩,⟨30000,0⟩]⟩∧Ra ⟨[⟨0,0⟩,⟨30000,0⟩]⟩≤60000;rw [e3];decide⟩
  ·exact ⟨_,rfl,rfl,rfl,by show 20000≤Ra ⟨[⟨0,0⟩,⟨20000,0⟩]⟩∧Ra ⟨[⟨0,0⟩,⟨20000,0⟩]⟩≤60000;rw [e2];decide⟩
  ·exact ⟨_,rfl,rfl,rfl,by show 20000≤Ra ⟨[⟨0,0⟩,⟨20000,0⟩]⟩∧Ra ⟨[⟨0,0⟩,⟨20000,0⟩]⟩≤60000;rw [e2];decide⟩
theorem pO {m:Map}{l:Lane}(hl:m.Lanes[0]? =some l)(hk:l.Kind=1){w:Work}(h:w.Lane_=0∧0≤w.From∧w.From≤w.To∧w.To≤Ra l.Curve_∧0≤w.Begin∧w.Begin<w.End∧w.End≤1099511627776∧0≤w.Limit∧w.Limit≤2000):workE m 0 w=none:=by
  obtain ⟨h1,h2,h3,h4,h5,h6,h7,h8,h9⟩:=h
  have hlen:=H5 hl
  unfold workE Q3
  rw [h1,show ((0:Int).toNat)=0 from rfl,hl,bR (by omega),bR]
  simp only [lF,Option.getD_some,Option.get!_some,hk,Ve,U6,if_true,bV,bM,Bool.not_eq_true',not_or,Bool.not_eq_false,bU]
  omega
/-- A map of the kit is valid, with such works. -/
theorem fW {k:Nat}{p:Par}(hk:k<8)(h:ParOK p){W:List Work}(hw:W.length≤8)(hW: ∀w∈W,w.Lane_=0∧0≤w.From∧w.From≤w.To∧w.To≤Q3 (ET k p) 0∧0≤w.Begin∧w.Begin<w.End∧w.End≤1099511627776∧0≤w.Limit∧w.Limit≤2000):ValR ⟨p.ver,Mr k p.lim,CN k p.r,Uv k p.o p.o',W⟩:=by
  have V:=pN hk h
  obtain ⟨l,l1,l2,l3,l4,l5⟩:=HB k p.lim
  have hv:=h.ver
  refine ValR.change (v:=0) (S:=Uv k 0 0) (W:= []) V (by omega) (ZW k _ _ _ _) (fun s hs=>fV h.o h.o' (by exact VW k p.lim) s hs) hw (fun w hwm=> ?_)
  obtain ⟨a1,a2,a3,a4,a5,a6,a7,a8,a9⟩:=hW w hwm
  refine pO (l:=l) l1 l2 ⟨a1,a2,a3,?_,a5,a6,a7,a8,a9⟩
  have:Q3 (ET k p) 0=Ra l.Curve_:=by
    unfold Q3 ET
    dsimp only
    rw [show ((0:Int).toNat)=0 from rfl,l1];rfl
  omega
theorem ZX (k:Nat)(p:Par):20000≤Q3 (ET k p) 0∧Q3 (ET k p) 0≤60000:=by
  obtain ⟨l,l1,l2,l3,l4,l5⟩:=HB k p.lim
  unfold Q3 ET
  dsimp only
  rw [show ((0:Int).toNat)=0 from rfl,l1]
  exact ⟨l4,l5⟩
theorem kA {k:Nat}{p:Par}(hk:k<8)(h:ParOK p):ValR (ET k p):=by
  have hl:=ZX k p
  refine fW hk h (wL h.wk1 (by decide)) (fun w hw=> ?_)
  rcases h.wk with e|⟨b,l,h1,h2,h3,h4,e⟩
  ·rw [e]at hw;cases hw
  ·rw [e]at hw
   simp only [bI]at hw
   subst hw
   dsimp only
   omega
/-! ### Limits -/
end Go.Abs.World
namespace Go.Abs
theorem Ds {α β:Type}{g:Nat→α→Option β}{x:β}: ∀{l:List α} {i:Nat},x∈Gl g i l↔∃j a,l[j]? =some a∧g (i+j) a=some x
  | [],i=>by simp [Gl]
  |a::r,i=>by
   unfold Gl
   have ih:=Ds (g:=g) (x:=x) (l:=r) (i:=i+1)
   have sh:(∃j b,(a::r)[j]? =some b∧g (i+j) b=some x)↔g i a=some x∨∃j b,r[j]? =some b∧g (i+1+j) b=some x:=by
     constructor
     ·rintro ⟨j,b,h1,h2⟩
      cases j with
      |zero=>simp at h1;subst h1;exact .inl h2
      |succ j=>exact .inr ⟨j,b,by simpa using h1,by rwa [show i+1+j=i+ (j+1) by omega]⟩
     ·rintro (h|⟨j,b,h1,h2⟩)
      ·exact ⟨0,a,rfl,h⟩
      ·exact ⟨j+1,b,by simpa using h1,by rwa [show i+ (j+1)=i+1+j by omega]⟩
   rw [sh,← ih]
   cases h:g i a with
   |none=>simp
   |some b=>simp [eq_comm]
end Go.Abs
namespace Go.Abs.World
open Go Go.Abs
theorem mem_before {m:Map}{k x:Int}:x∈Cp m k↔∃(i:Nat) (l:Lane),m.Lanes[i]? =some l∧k∈l.Next∧x=(i:Int):=by
  unfold Cp
  rw [Ds]
  refine exists_congr fun i=>exists_congr fun l=>and_congr_right fun _=> ?_
  rw [wK]
  by_cases h:l.Next.contains k=true
  ·rw [bQ h]
   simp only [Option.some.injEq]
   exact ⟨fun e=>⟨by simpa using h,e.symm⟩,fun e=>e.2.symm⟩
  ·rw [bR h]
   simp only [reduceCtorEq,false_iff,not_and]
   intro hk
   exact absurd (by simpa using hk) h
theorem mem_origins {m:Map}{x:Int}:x∈T4 m↔0≤x∧x<m.Lanes.length∧Cp m x= []:=by
  unfold T4
  rw [Ds]
  constructor
  ·rintro ⟨i,l,h1,h2⟩
   have:=H5 h1
   split at h2
   ·rename_i h
    cases h2
    rw [wK]at h ⊢
    exact ⟨by omega,by omega,l8 h⟩
   ·cases h2
  ·rintro ⟨h0,h1,h2⟩
   have hlt:x.toNat<m.Lanes.length:=by omega
   refine ⟨x.toNat,m.Lanes[x.toNat],lH hlt,?_⟩
   rw [wK,show ((x.toNat:Nat):Int)=x by omega,h2];rfl
theorem PX {m:Map}(V:ValR m){p k:Int}(h:p∈Cp m k):0≤p∧p<k∧k<m.Lanes.length∧Sp m p.toNat k=true:=by
  obtain ⟨i,l,h1,h2,rfl⟩:=mem_before.1 h
  have hk:=V.next h1 h2
  refine ⟨by omega,hk.1,hk.2,?_⟩
  rw [Zs V,lZ,wF]
  refine ⟨k,by unfold nextOf;rw [h1];exact h2,by simp⟩
/-- Each lane is a source, or a source leads to it. -/
theorem NN {m:Map}(V:ValR m): ∀(n:Nat) (a:Int),0≤a→a<m.Lanes.length→a<n→∃s∈T4 m,s=a∨Sp m s.toNat a=true
  |0,a,h0,h1,h2=>by omega
  |n+1,a,h0,h1,h2=>by
   cases hb:Cp m a with
   |nil=>exact ⟨a,mem_origins.2 ⟨h0,h1,hb⟩, .inl rfl⟩
   |cons p r=>
    obtain ⟨p0,p1,p2,p3⟩:=PX V (show p∈Cp m a by rw [hb];simp)
    obtain ⟨s,s1,s2⟩:=NN V n p p0 (by omega) (by omega)
    refine ⟨s,s1, .inr ?_⟩
    rcases s2 with rfl|s2
    ·exact p3
    ·have e:((p.toNat:Nat):Int)=p:=by omega
     exact GZ V (b:=p.toNat) p3 m.Lanes.length s.toNat (by omega) (by rw [e];exact s2)
/-! ### How long lanes are -/
theorem fX: ∀(l:List Int) (s:Int),(∀x∈l,0≤x∧x≤1048576)→0≤s→s+1048576*l.length≤9000000000000000000→s≤CK s l∧CK s l≤s+1048576*l.length
  | [],s,_,_,_=>by simp [CK]
  |a::r,s,h,h0,h1=>by
   have ha:=h a (by simp)
   simp only [lL]at h1 ⊢
   rw [CK,F2 (by omega)]
   have:=fX r (s+a) (fun x hx=>h x (by simp [hx])) (by omega) (by omega)
   omega
theorem fY: ∀{l:List Spot} {last:Option CurveVector},Good last l→∀x∈AF l,1000≤x∧x≤1048576:=by
  intro l last h
  induction h with
  |one last p=>intro x hx;simp [AF]at hx
  |cons last p q r h1 h2 h3 h4 h ih=>
   intro x hx
   rw [Uq,lU]at hx
   rcases hx with rfl|hx
   ·exact ⟨h2,h3⟩
   ·exact ih x hx
theorem kB {c:Curve}(h:Cw c.Pts=0):1000≤Ra c∧Ra c≤16777216:=by
  have V:=checkM_zero.1 h
  unfold Ra Mg
  rw [bQ h]
  have h16:=V.most
  have h2:=V.two
  have hm:=fY V.good
  cases hp:c.Pts with
  |nil=>rw [hp]at h2;simp at h2
  |cons p r=>
   rw [hp]at hm h16 h2
   cases r with
   |nil=>simp at h2
   |cons q r=>
    simp only [lL]at h16
    rw [Uq]at hm ⊢
    have ha:=hm _ (List.mem_cons_self)
    have hl:=Tj r q
    rw [CK,F2 (by omega),Int.zero_add]
    have:=fX (AF (q::r)) (rt (N3 (R5 p q) (R5 p q))) (fun x hx=>by have:=hm x (List.mem_cons_of_mem _ hx);omega) (by omega) (by rw [hl];omega)
    rw [hl]at this
    omega
theorem ValR.long {m:Map}(V:ValR m){k:Int}(h0:0≤k)(h1:k<m.Lanes.length):1000≤Q3 m k∧Q3 m k≤16777216:=by
  obtain ⟨l,e1,e2⟩:=Tl h0 h1
  unfold Q3
  rw [e1]
  exact kB (V.laneOK e1).curve
/-! ### Routes -/
def Lm (m:Map):Int→List Int→Bool
  |_,[]=>true
  |a,b::r=>(nextOf m a.toNat).contains b&&Lm m b r
noncomputable def P3 (m:Map)(r:List Int):Int:=
  if Uu m≠0 then Uu m
  else match r with
    | []=>13
    |a::t=>if 7<t.length∨a<0∨(m.Lanes.length:Int)≤a∨Cp m a≠ []∨Lm m a t=false then 13 else 0
/-- What a route is. -/
structure RouteOK (m:Map)(a:Int)(t:List Int):Prop where
  val:ValR m
  most:t.length≤7
  first:0≤a∧a<m.Lanes.length
  source:Cp m a= []
  chain:Lm m a t=true
theorem chkRoute_zero {m:Map}{r:List Int}:P3 m r=0↔∃a t,r=a::t∧RouteOK m a t:=by
  unfold P3
  constructor
  ·intro h
   split at h
   ·exact absurd h (by assumption)
   ·rename_i h1
    have V:=chkR_zero.1 (Decidable.not_not.1 h1)
    split at h
    ·cases h
    ·rename_i a t
     split at h
     ·cases h
     ·rename_i h2
      exact ⟨a,t,rfl,V,by omega,by omega,Decidable.not_not.1 fun q=>h2 (.inr (.inr (.inr (.inl q)))),by
        cases q:Lm m a t with
        |true=>rfl
        |false=>exact absurd (.inr (.inr (.inr (.inr q)))) h2⟩
  ·rintro ⟨a,t,rfl,V,h1,h2,h3,h4⟩
   rw [bR (by rw [chkR_zero.2 V];simp)]
   dsimp only
   rw [bR]
   rintro (q|q|q|q|q)
   ·omega
   ·omega
   ·omega
   ·exact q h3
   ·rw [h4]at q;cases q
theorem NO {m:Map}(V:ValR m): ∀{t:List Int} {a:Int},Lm m a t=true→0≤a→∀x∈t,a<x∧x<m.Lanes.length
  | [],_,_,_,x,hx=>by cases hx
  |b::r,a,h,h0,x,hx=>by
   rw [Lm,bU,List.contains_iff_mem]at h
   have hb:=V.nextOf h.1
   rcases lU.1 hx with rfl|hx
   ·omega
   ·have:=NO V h.2 (by omega) x hx;omega
theorem RouteOK.mem {m:Map}{a:Int}{t:List Int}(R:RouteOK m a t){x:Int}(hx:x∈a::t):0≤x∧x<m.Lanes.length:=by
  have:=R.first
  rcases lU.1 hx with rfl|hx
  ·exact this
  ·have:=NO R.val R.chain (by omega) x hx;omega
theorem VX {m:Map}(B:BearM m)(V:ValR m)(l:List Int)(hl:l.length≤1000000): ∀(r:List Int) (i:Nat) (a:Int),l.drop i=r→i≤l.length→0≤a→a<m.Lanes.length→loop (Q0 m l) (a,(i:Int))=some (if Lm m a r=true then .inl ()else .inr 13):=by
  intro r
  induction r with
  |nil=>
   intro i a hi hil h0 h1
   have:=N8 hi
   obtain rfl:i=l.length:=by omega
   refine C5 ?_
   unfold Q0
   rw [H9];rfl
  |cons b r ih=>
   intro i a hi hil h0 h1
   have hlt:=M9 hi
   have hb:=U7 hi
   obtain ⟨ln,e1,e2⟩:=Tl h0 h1
   have hs:Q0 m l (a,(i:Int))=some (if ln.Next.contains b=true then .go (b,((i+1:Nat):Int))else .out (.inr 13)):=by
     unfold Q0
     dsimp only
     rw [J9 hlt,C3 hb,bO,lB,e2,lB,Zd _ (B.toBear.pts _ (lG e1)).2,lB,G8 hlt (by omega)]
     cases ln.Next.contains b<;>rfl
   have hn:nextOf m a.toNat=ln.Next:=by unfold nextOf;rw [e1];rfl
   rw [Lm,hn]
   cases q:ln.Next.contains b
   ·rw [q]at hs;rw [C5 hs];rfl
   ·rw [q]at hs
    have hbm:=V.next e1 (List.contains_iff_mem.1 q)
    rw [J2 hs,ih (i+1) b (K5 hi) (by omega) (by omega) (by omega),bS]
theorem BF {m:Map}(B:BearM m)(r:List Int)(hr:r.length≤1000000):W9 m r=some (P3 m r):=by
  unfold W9 P3
  rw [Oa B,lB]
  by_cases q:Uu m=0
  ·have V:=chkR_zero.1 q
   rw [bR (by simpa using q),show (Uu m !=0)=false by simpa using q,bP]
   cases r with
   |nil=>rfl
   |cons a t=>
    dsimp only
    simp only [lL]at hr ⊢
    by_cases h8:7<t.length
    ·rw [bQ (.inl h8),show ((((t.length+1:Nat):Int)==0)||(decide (((t.length+1:Nat):Int)>8)))=true by simp;omega];rfl
    ·rw [show ((((t.length+1:Nat):Int)==0)||(decide (((t.length+1:Nat):Int)>8)))=false by simp;omega]
     rw [show C0 (a::t) 0=some a from rfl]
     simp only [bX,bO,lB,bY]
     by_cases h0:a<0
     ·rw [bQ (.inr (.inl h0)),bJ h0];rfl
     ·rw [bK h0]
      simp only [bX,bO,lB,bY]
      by_cases h1:(m.Lanes.length:Int)≤a
      ·rw [bQ (.inr (.inr (.inl h1))),show decide (a≥(m.Lanes.length:Int))=true from bJ h1];rfl
      ·rw [show decide (a≥(m.Lanes.length:Int))=false from bK (by omega)]
       simp only [bX,bO,bY]
       rw [lB,ZU B,lB]
       by_cases hb:Cp m a= []
       ·rw [hb]
        have e1:AA (a::t) 1 ((t.length+1:Nat):Int)=some t:=by
          unfold AA
          rw [bQ (by simp;omega)]
          simp
        rw [e1,show decide ((([]:List Int).length:Int)>0)=false from rfl,bP,lB]
        have:=VX B V t (by omega) t 0 a rfl (by omega) (by omega) (by omega)
        rw [show ((0:Nat):Int)=0 from rfl]at this
        rw [this]
        by_cases hc:Lm m a t=true
        ·rw [bQ hc,bR (by rw [hc];simp;omega)];rfl
        ·rw [bR hc,bQ (.inr (.inr (.inr (.inr (by simpa using hc)))))];rfl
       ·rw [bQ (.inr (.inr (.inr (.inl hb)))),show decide (((Cp m a).length:Int)>0)=true from bJ (by have:=List.length_pos_iff.2 hb;omega)];rfl
  ·rw [bQ q,show (Uu m !=0)=true by simpa using q];rfl
/-- Where the lanes of a route begin. -/
noncomputable def P4 (m:Map):Int→List Int→List Int
  |_,[]=> []
  |s,a::r=>s::P4 m (s+Q3 m a) r
noncomputable def Ed (m:Map):Int→List Int→Int
  |s,[]=>s
  |s,a::r=>Ed m (s+Q3 m a) r
theorem Nd (m:Map): ∀(r:List Int) (s:Int),(P4 m s r).length=r.length
  | [],_=>rfl
  |_::r,_=>by rw [P4,lL,Nd m r,lL]
noncomputable def Az (m:Map)(r:List Int):RoadsWay:=if P3 m r=0 then ⟨m,r,P4 m 0 r,Ed m 0 r⟩else ⟨⟨0,[],[],[],[]⟩,[],[],0⟩
theorem Rn {m:Map}(B:BearM m)(r:List Int)(hr:r.length≤1000000):Ab m r=some (Az m r):=by
  unfold Ab Az
  rw [BF B r hr,lB]
  by_cases q:P3 m r=0
  ·rw [bQ q,q]
   obtain ⟨a,t,rfl,R⟩:=chkRoute_zero.1 q
   have key: ∀(l:List Int) (i:Nat) (s:Int) (st:List Int),(a::t).drop i=l→i≤(a::t).length→0≤s→s≤16777216*i→st.length=i→loop (W5 m (a::t)) ((i:Int),(st,s))=some (st++P4 m s l,Ed m s l):=by
     intro l
     induction l with
     |nil=>
      intro i s st hi hil _ _ _
      have:=N8 hi
      obtain rfl:i=(a::t).length:=by omega
      refine C5 ?_
      unfold W5
      rw [H9,P4,Ed,lP];rfl
     |cons x l ih=>
      intro i s st hi hil h0 h1 h2
      have hlt:=M9 hi
      have hx:=U7 hi
      have hm:=R.mem (lG hx)
      have hl:=R.val.long hm.1 hm.2
      have hm7:=R.most
      simp only [lL]at hlt
      rw [J2 (s':=(((i+1:Nat):Int),(st++ [s],s+Q3 m x)))]
      ·rw [ih (i+1) _ _ (K5 hi) (by simp;omega) (by omega) (by omega) (by simp [h2]),P4,Ed,lO];rfl
      ·unfold W5
       dsimp only
       rw [J9 (by simpa using hlt),C3 hx,bO,lB,Ey (by simp;omega),lB,IG B.toBear hm.1 hm.2,lB,G8 hlt (by omega),QF (by omega)]
   have:=key (a::t) 0 0 [] rfl (by omega) (by decide) (by decide) rfl
   rw [show ((0:Nat):Int)=0 from rfl]at this
   show (loop (W5 m (a::t)) (0,([],0))).bind _=_
   rw [this];rfl
  ·rw [bR q,show (P3 m r !=0)=true by simpa using q];rfl
/-- The place in a route at which it enters a zone. -/
noncomputable def Eo (m:Map)(r:List Int)(k:Int):Int:=match m.Zones[k.toNat]? with
  |some z=>if 0≤k∧P3 m r=0 then EQ (fun l=>(Jv z l).2) r else -1
  |none=> -1
theorem fZ {m:Map}(B:BearM m)(r:List Int)(hr:r.length≤1000000)(k:Int):Hu m r k=some (Eo m r k):=by
  unfold Hu Eo
  rw [Rn B r hr,lB]
  by_cases h:k<0∨(m.Zones.length:Int)≤k
  ·rw [show ((decide (k<0))||(decide (k≥(m.Zones.length:Int))))=true by simpa using h,bO]
   cases hz:m.Zones[k.toNat]? with
   |none=>rfl
   |some z=>
    have:=H5 hz
    dsimp only
    rw [bR (fun x=>by have:=x.1;omega)]
  ·obtain ⟨z,z1,z2⟩:=XT (m:=m) (k:=k) (by omega) (by omega)
   rw [show ((decide (k<0))||(decide (k≥(m.Zones.length:Int))))=false by rw [bZ];simpa using h,bP,z1]
   dsimp only
   have hp:=B.toBearZ.parts z (lG z1)
   have key: ∀l:List Int,l.length≤1000000→I8 l m k=some (EQ (fun l=>(Jv z l).2) l):=by
     intro l hl
     unfold I8
     rw [Qa l (fun l=>(Jv z l).2) (by omega) (fun i a h=>by
      have hi:=H5 h
      unfold H8 Ag
      rw [J9 hi,C3 h,bO,lB,z2,lB,jY hp,lB,lB]
      cases (Jv z a).2<;>rfl) (by unfold H8;rw [H9];rfl)]
   unfold Az
   by_cases q:P3 m r=0
   ·rw [bQ q,bQ ⟨by omega,q⟩,key r hr];rfl
   ·rw [bR q,bR (fun x=>q x.2),key [] (by simp)];rfl
/-- A walk that goes on until it can't. -/
def HC (m:Map):Nat→Int→List Int→Bool
  |c,a,[]=>(nextOf m a.toNat).isEmpty||c==0
  |c,a,b::r=>(nextOf m a.toNat).contains b&&decide (0<c)&&HC m (c - 1) b r
theorem KV {m:Map}: ∀{r:List Int} {c:Nat} {a:Int},HC m c a r=true→Lm m a r=true∧r.length≤c
  | [],c,a,_=>⟨rfl,wI _⟩
  |b::r,c,a,h=>by
   rw [HC,bU,bU,bM]at h
   have:=KV h.2
   rw [Lm,h.1.1,this.1]
   refine ⟨rfl,?_⟩
   simp only [lL];omega
theorem SU {m:Map}(V:ValR m): ∀(f:Nat) (x a:Int) (c:Nat) (out:List Int),0≤x→x<16777216→0≤a→a<m.Lanes.length→m.Lanes.length≤a.toNat+f→out.length+c=8→
    ∃r,loop (Lc m) (x,a,out)=some (out++r)∧HC m c a r=true
  |0,x,a,c,out,h0,h1,a0,a1,hf,hc=>by omega
  |f+1,x,a,c,out,h0,h1,a0,a1,hf,hc=>by
   obtain ⟨ln,e1,e2⟩:=Tl a0 a1
   have hn:nextOf m a.toNat=ln.Next:=by unfold nextOf;rw [e1];rfl
   have hfew:=(V.laneOK e1).few
   by_cases q:ln.Next.length=0∨c=0
   ·refine ⟨[],?_,?_⟩
    ·rw [lP]
     refine C5 ?_
     unfold Lc
     dsimp only
     rw [e2,lB]
     rw [show ((decide ((ln.Next.length:Int)>0))&& (decide ((out.length:Int)<8)))=false by simp;omega];rfl
    ·rw [HC,hn]
     rcases q with q|q
     ·rw [l8 q];rfl
     ·rw [q,beq_self_eq_true,Bool.or_true]
   ·have hm:=Ir x (show (0:Int)< (ln.Next.length:Int) by omega)
    have hlt:(x % (ln.Next.length:Int)).toNat<ln.Next.length:=by omega
    have hbm:=V.next e1 (List.getElem_mem hlt)
    have hx:0≤x / (ln.Next.length:Int)∧x / (ln.Next.length:Int)<16777216:=⟨Int.ediv_nonneg h0 (by omega),Int.lt_of_le_of_lt (Int.ediv_le_self _ h0) h1⟩
    obtain ⟨r,r1,r2⟩:=SU V f (x / (ln.Next.length:Int)) ln.Next[(x % (ln.Next.length:Int)).toNat] (c - 1) (out++ [ln.Next[(x % (ln.Next.length:Int)).toNat]]) hx.1 hx.2 (by omega) (by omega) (by omega) (by simp;omega)
    refine ⟨ln.Next[(x % (ln.Next.length:Int)).toNat]::r,?_,?_⟩
    ·rw [lO]at r1
     rw [J2 (s':=(x / (ln.Next.length:Int),ln.Next[(x % (ln.Next.length:Int)).toNat],out++ [ln.Next[(x % (ln.Next.length:Int)).toNat]]))]
     ·exact r1
     ·unfold Lc
      dsimp only
      rw [e2,lB]
      rw [show ((decide ((ln.Next.length:Int)>0))&& (decide ((out.length:Int)<8)))=true by simp;omega,bO,lB,lB]
      unfold Vk PF
      rw [bR (by omega),lB,wQ h0,wP h0]
      have e3:C0 ln.Next (x % (ln.Next.length:Int))=some ln.Next[(x % (ln.Next.length:Int)).toNat]:=by
        unfold C0
        rw [bQ hm.1,lH hlt]
      rw [e3,lB,bR (by omega),lB,Ey (by simp;omega),lB]
      have:IntKind.wrap .i64 (x / (ln.Next.length:Int))=x / (ln.Next.length:Int):=QF (by omega)
      rw [this]
    ·rw [HC,hn,r2,Bool.and_true,bU]
     exact ⟨List.contains_iff_mem.2 (List.getElem_mem hlt),by simp;omega⟩
/-- A route of the kit: it begins at a source, and goes on until it can't. -/
theorem PY {m:Map}(B:BearM m)(V:ValR m)(n:Int): ∃a t,Jn m n=some (a::t)∧a∈T4 m∧HC m 7 a t=true:=by
  unfold Jn
  obtain ⟨s,s1,_⟩:=NN V 1 0 (by decide) (by have:=V.pos;omega) (by decide)
  have h12:=V.lanes
  have ol:(T4 m).length≤12:=wL (Ut _ _ _) h12
  have op:0< (T4 m).length:=List.length_pos_iff.2 (fun e=>by rw [e]at s1;cases s1)
  rw [SS B,lB,show (((T4 m).length:Int)==0)=false by simp only [beq_eq_false_iff_ne];omega,bP,Sq (by decide) (by decide),lB]
  have c:=Ir n (show (0:Int)<1048576 by decide)
  generalize n % 1048576=x at c
  unfold Vk PF
  rw [bR (by omega),lB,wQ c.1,wP c.1]
  have hm:=Ir x (show (0:Int)< ((T4 m).length:Int) by omega)
  have hlt:(x % ((T4 m).length:Int)).toNat< (T4 m).length:=by omega
  have e3:C0 (T4 m) (x % ((T4 m).length:Int))=some (T4 m)[(x % ((T4 m).length:Int)).toNat]:=by
    unfold C0
    rw [bQ hm.1,lH hlt]
  have hx:0≤x / ((T4 m).length:Int)∧x / ((T4 m).length:Int)<16777216:=⟨Int.ediv_nonneg c.1 (by omega),by have:=Int.ediv_le_self ((T4 m).length:Int) c.1;omega⟩
  rw [e3,lB,bR (by omega),lB]
  have:IntKind.wrap .i64 (x / ((T4 m).length:Int))=x / ((T4 m).length:Int):=QF (by omega)
  rw [this]
  have hmem:=List.getElem_mem hlt
  have ho:=mem_origins.1 hmem
  obtain ⟨r,r1,r2⟩:=SU V m.Lanes.length (x / ((T4 m).length:Int)) (T4 m)[(x % ((T4 m).length:Int)).toNat] 7 [(T4 m)[(x % ((T4 m).length:Int)).toNat]] hx.1 hx.2 ho.1 ho.2.1 (by omega) rfl
  exact ⟨_,r,by rw [r1];rfl,hmem,r2⟩
theorem gA {m:Map}(V:ValR m){a:Int}{t:List Int}(ha:a∈T4 m)(h:HC m 7 a t=true):RouteOK m a t:=by
  have ho:=mem_origins.1 ha
  have hf:=KV h
  exact ⟨V,hf.2,⟨ho.1,ho.2.1⟩,ho.2.2,hf.1⟩
end Go.Abs.World
/-! Lists that are sorted, and how an insertion sort makes them. -/
namespace Go.Abs
open Go
/-- What a comparison must satisfy. -/
structure LtOK {α:Type}(lt:α→α→Bool):Prop where
  asym: ∀a b,lt a b=true→lt b a=false
  trans: ∀a b c,lt b a=false→lt c b=false→lt c a=false
def Srt {α:Type}(lt:α→α→Bool)(l:List α):Prop:=l.Pairwise fun a b=>lt b a=false
section
variable {α:Type}
theorem Uw (U V:List α)(x y:α)(n:Int)(h:n=(U.length:Int)):Lq (U++x::V) n y=U++y::V:=by
  subst h
  simp [Lq]
theorem Lx (U V:List α)(x:α)(n:Int)(h:n=(U.length:Int)):C0 (U++x::V) n=some x:=by
  subst h
  simp [C0]
theorem VY {Q:List α}(h:Q≠ []): ∃Q' q,Q=Q'++ [q]:=⟨Q.dropLast,Q.getLast h,(List.dropLast_concat_getLast h).symm⟩
variable {lt:α→α→Bool}
theorem Srt.ins (L:LtOK lt){Q1 Q2:List α}{x:α}(h:Srt lt (Q1++Q2))(h1: ∀q∈Q1,lt x q=false)(h2: ∀q∈Q2,lt x q=true):Srt lt (Q1++x::Q2):=by
  unfold Srt at h ⊢
  rw [bC]at h ⊢
  refine ⟨h.1,bB.2 ⟨fun b hb=>L.asym _ _ (h2 b hb),h.2.1⟩,fun a ha b hb=> ?_⟩
  rcases lU.1 hb with rfl|hb
  ·exact h1 a ha
  ·exact h.2.2 a ha b hb
theorem LtOK.irr (L:LtOK lt)(a:α):lt a a=false:=by
  cases h:lt a a with
  |false=>rfl
  |true=>rw [L.asym a a h]at h;cases h
theorem Srt.get (L:LtOK lt){l:List α}(h:Srt lt l){i j:Nat}(hij:i≤j)(hj:j<l.length):lt l[j] l[i]=false:=by
  rcases Nat.lt_or_eq_of_le hij with h1|h1
  ·exact bD.1 h i j (by omega) hj h1
  ·subst h1;exact L.irr _
/-- The first place from which a test fails. -/
theorem kC {F:Int×Int→Option (Stp (Int×Int) Int)}(Q:Nat→Bool)(lo hi:Nat)(hle:lo≤hi)
    (hF: ∀x y:Nat,lo≤x→x<y→y≤hi→F ((x:Int),(y:Int))=some (if Q ((x+y) / 2)then .go ((((x+y) / 2+1:Nat):Int),(y:Int))else .go ((x:Int),(((x+y) / 2:Nat):Int))))
    (hstop: ∀x y:Nat,¬x<y→F ((x:Int),(y:Int))=some (.out (x:Int)))
    (mono: ∀c c',lo≤c→c≤c'→c'<hi→Q c'=true→Q c=true):
    ∃s:Nat,loop F ((lo:Int),(hi:Int))=some (s:Int)∧lo≤s∧s≤hi∧(∀c,lo≤c→c<s→Q c=true)∧∀c,s≤c→c<hi→Q c=false:=by
  have key: ∀(k x y:Nat),y - x≤k→lo≤x→x≤y→y≤hi→(∀c,lo≤c→c<x→Q c=true)→(∀c,y≤c→c<hi→Q c=false)→
   ∃s:Nat,loop F ((x:Int),(y:Int))=some (s:Int)∧lo≤s∧s≤hi∧(∀c,lo≤c→c<s→Q c=true)∧∀c,s≤c→c<hi→Q c=false:=by
    intro k
    induction k with
    |zero=>
     intro x y hk h1 h2 h3 h4 h5
     obtain rfl:x=y:=by omega
     exact ⟨x,C5 (hstop x x (by omega)),h1,h3,h4,h5⟩
    |succ k ih=>
     intro x y hk h1 h2 h3 h4 h5
     by_cases hxy:x<y
     ·have hf:=hF x y h1 hxy h3
      cases hq:Q ((x+y) / 2)with
      |true=>
       rw [hq,bQ rfl]at hf
       obtain ⟨s,g1,g2⟩:=ih ((x+y) / 2+1) y (by omega) (by omega) (by omega) h3 (fun c hc1 hc2=>mono c ((x+y) / 2) hc1 (by omega) (by omega) hq) h5
       exact ⟨s,by rw [J2 hf];exact g1,g2⟩
      |false=>
       rw [hq,bR (by simp)]at hf
       obtain ⟨s,g1,g2⟩:=ih x ((x+y) / 2) (by omega) h1 (by omega) (by omega) h4 (fun c hc1 hc2=>by
         cases hc:Q c with
         |false=>rfl
         |true=>rw [mono ((x+y) / 2) c (by omega) hc1 hc2 hc]at hq;cases hq)
       exact ⟨s,by rw [J2 hf];exact g1,g2⟩
     ·obtain rfl:x=y:=by omega
      exact ⟨x,C5 (hstop x x (by omega)),h1,h3,h4,h5⟩
  exact key (hi - lo) lo hi (wH _) (wH _) hle (wH _) (fun c h1 h2=>absurd h2 (by omega)) (fun c h1 h2=>absurd h2 (by omega))
/-- The inner loop: an element goes down to its place. -/
theorem FZ (L:LtOK lt){F:Int×List α→Option (Stp (Int×List α) (List α))}{P T:List α}(N:Nat)
    (hstop: ∀xs,F ((P.length:Int),xs)=some (.out xs))
    (hF: ∀(U V:List α) (q x:α),P.length≤U.length→(U++q::x::V).length=N→F (((U.length:Int)+1),U++q::x::V)=some (if lt x q then .go ((U.length:Int),U++x::q::V)else .out (U++q::x::V))) (x:α):
    ∀(n:Nat) (Q1 Q2:List α),Q1.length=n→Srt lt (Q1++Q2)→(∀q∈Q2,lt x q=true)→(P++Q1++x::Q2++T).length=N→
     ∃Q,loop F (((P.length+Q1.length:Nat):Int),P++Q1++x::Q2++T)=some (P++Q++T)∧Q.Perm (x::(Q1++Q2))∧Srt lt Q:=by
  intro n
  induction n with
  |zero=>
   intro Q1 Q2 hn hs hg hN
   obtain rfl:=List.length_eq_zero_iff.1 hn
   refine ⟨x::Q2,?_,by simp,?_⟩
   ·rw [C5 (by rw [lN,Nat.add_zero];exact hstop _)]
    simp
   ·exact hs.ins L (by simp) hg
  |succ n ih=>
   intro Q1 Q2 hn hs hg hN
   obtain ⟨Q',q,rfl⟩:=VY (Q:=Q1) (by rintro rfl;simp at hn)
   rw [lM,List.length_singleton]at hn
   have e1:P++ (Q'++ [q])++x::Q2++T=(P++Q')++q::x::(Q2++T):=by simp
   have e2:((P.length+ (Q'++ [q]).length:Nat):Int)=((P++Q').length:Int)+1:=by simp;omega
   have hF1:=hF (P++Q') (Q2++T) q x (by simp) (by rw [← e1];exact hN)
   by_cases hl:lt x q=true
   ·rw [bQ hl]at hF1
    obtain ⟨Q,g1,g2,g3⟩:=ih Q' (q::Q2) (by omega) (by simpa using hs) (fun y hy=>by
      rcases lU.1 hy with rfl|hy
      ·exact hl
      ·exact hg y hy) (by rw [← hN];simp)
    refine ⟨Q,?_,g2.trans (by simp),g3⟩
    rw [e1,e2,J2 hF1,← g1]
    congr 1
    simp
   ·rw [bR hl]at hF1
    have hl':lt x q=false:=by simpa using hl
    refine ⟨Q'++ [q]++x::Q2,?_,?_,hs.ins L (fun y hy=> ?_) hg⟩
    ·rw [e1,e2,C5 hF1];simp
    ·have:=List.perm_middle (a:=x) (l₁:=Q'++ [q]) (l₂:=Q2);exact this
    ·rcases lT.1 hy with h|h
     ·have hq:lt q y=false:=by
        unfold Srt at hs
        rw [lO,bC]at hs
        exact hs.2.2 y h q (by simp)
      exact L.trans y q x hq hl'
     ·rw [bI.1 h];exact hl'
/-- The outer loop. -/
theorem NP {F:Int×List α→Option (Stp (Int×List α) (List α))}{P S:List α}(N:Nat)(b:Nat)
    (hend: ∀xs (i:Nat),b≤i→F ((i:Int),xs)=some (.out xs))
    (hF: ∀(Q R:List α) (x:α),(P++Q++x::R++S).length=N→P.length+Q.length<b→Srt lt Q→∃Q',F (((P.length+Q.length:Nat):Int),P++Q++x::R++S)=some (.go (((P.length+Q.length+1:Nat):Int),P++Q'++R++S))∧Q'.Perm (x::Q)∧Srt lt Q'):
    ∀(R Q:List α),(P++Q++R++S).length=N→P.length+Q.length+R.length=b→Srt lt Q→∃Q',loop F (((P.length+Q.length:Nat):Int),P++Q++R++S)=some (P++Q'++S)∧Q'.Perm (Q++R)∧Srt lt Q':=by
  intro R
  induction R with
  |nil=>
   intro Q hN hb hs
   refine ⟨Q,?_,by simp,hs⟩
   rw [C5 (hend _ _ (by simpa using Nat.le_of_eq hb.symm))]
   simp
  |cons x R ih=>
   intro Q hN hb hs
   rw [lL]at hb
   obtain ⟨Q',g1,g2,g3⟩:=hF Q R x hN (by omega) hs
   have hl:Q'.length=Q.length+1:=by rw [g2.length_eq];simp
   obtain ⟨Q2,k1,k2,k3⟩:=ih Q' (by rw [← hN];simp [hl];omega) (by omega) g3
   refine ⟨Q2,?_,k2.trans ((g2.append_right R).trans ?_),k3⟩
   ·rw [J2 g1,← k1,hl]
    congr 1
   ·exact (List.perm_middle (a:=x) (l₁:=Q) (l₂:=R)).symm
end
end Go.Abs
/-! How the lists are sorted. -/
namespace Go.Abs.World
open Go Go.Abs
def XV (a b:Int):Bool:=decide (a<b)
theorem nY:LtOK XV:=⟨fun a b h=>by simp only [XV,bM,wC]at h ⊢;omega,fun a b c h1 h2=>by simp only [XV,wC]at h1 h2 ⊢;omega⟩
theorem kD (a b:Int):Ke a b=some (XV a b):=by
  have h: ∀x:Int,W6 x=some false:=fun x=>by unfold W6;simp
  unfold Ke
  rw [h,lB]
  rfl
theorem ZY {α:Type}(U V:List α)(q x:α):U++q::x::V=(U++ [q])++x::V:=by simp
theorem VZ (P T:List Int)(x:Int)(Q:List Int)(hs:Srt XV Q)(hN:(P++Q++x::T).length≤1000000):
    ∃Q',loop (J4 (P.length:Int)) (((P.length+Q.length:Nat):Int),P++Q++x::T)=some (P++Q'++T)∧Q'.Perm (x::Q)∧Srt XV Q':=by
  have hstop: ∀xs,J4 (P.length:Int) ((P.length:Int),xs)=some (.out xs):=fun xs=>by
    unfold J4
    simp only [show decide ((P.length:Int)>(P.length:Int))=false from bK (by omega),bP,bT,lB]
  have hF: ∀(U V:List Int) (q y:Int),P.length≤U.length→(U++q::y::V).length=(P++Q++x::T).length→J4 (P.length:Int) (((U.length:Int)+1),U++q::y::V)=some (if XV y q then .go ((U.length:Int),U++y::q::V)else .out (U++q::y::V)):=fun U V q y hP hl=>by
    unfold J4
    have hb:U.length+2≤1000000:=by rw [← hl]at hN;simp at hN;omega
    have e1:D6 ((U.length:Int)+1 - 1)=(U.length:Int):=by rw [F2 (by omega)];omega
    have g1:C0 (U++q::y::V) ((U.length:Int)+1)=some y:=by rw [ZY];exact Lx _ _ _ _ (by simp)
    have g2:C0 (U++q::y::V) (U.length:Int)=some q:=Lx _ _ _ _ rfl
    have s1:Lq (U++q::y::V) ((U.length:Int)+1) q=U++q::q::V:=by rw [ZY,Uw _ _ _ _ _ (by simp)];simp
    have g3:C0 (U++q::q::V) (U.length:Int)=some q:=Lx _ _ _ _ rfl
    have s2:Lq (U++q::q::V) (U.length:Int) y=U++y::q::V:=Uw _ _ _ _ _ rfl
    simp only [show decide (((U.length:Int)+1)>(P.length:Int))=true from bJ (by omega),bO,bS,e1,g1,g2,s1,g3,s2,lB,kD]
    cases XV y q<;>rfl
  obtain ⟨Q',h1,h2,h3⟩:=FZ nY (P:=P) (T:=T) (P++Q++x::T).length hstop hF x Q.length Q [] rfl (by simpa using hs) (by simp) (by simp)
  refine ⟨Q',?_,by simpa using h2,h3⟩
  rw [← h1];congr 1;simp
theorem kE (P A S:List Int)(hN:(P++A++S).length≤1000000):
    ∃A',J3 (P++A++S) (P.length:Int) ((P.length+A.length:Nat):Int)=some (P++A'++S)∧A'.Perm A∧Srt XV A':=by
  unfold J3
  have hend: ∀(xs:List Int) (i:Nat),P.length+A.length≤i→G6 (P.length:Int) ((P.length+A.length:Nat):Int) ((i:Int),xs)=some (.out xs):=fun xs i hi=>by
    unfold G6
    rw [show decide ((i:Int)< ((P.length+A.length:Nat):Int))=false from bK (by omega)];rfl
  simp only [lM]at hN
  have hw:D6 ((P.length:Int)+1)=((P.length+1:Nat):Int):=by rw [F2 (by omega)];omega
  cases A with
  |nil=>
   refine ⟨[],?_,by simp,List.Pairwise.nil⟩
   rw [hw,C5 (hend _ _ (by simp))]
  |cons a A=>
   have hF: ∀(Q R:List Int) (x:Int),(P++Q++x::R++S).length=(P++a::A++S).length→P.length+Q.length<P.length+ (a::A).length→Srt XV Q→∃Q',G6 (P.length:Int) ((P.length+ (a::A).length:Nat):Int) (((P.length+Q.length:Nat):Int),P++Q++x::R++S)=some (.go (((P.length+Q.length+1:Nat):Int),P++Q'++R++S))∧Q'.Perm (x::Q)∧Srt XV Q':=fun Q R x hl hb hs=>by
     obtain ⟨Q',k1,k2,k3⟩:=VZ P (R++S) x Q hs (by simp only [lM,lL]at hl hN ⊢;omega)
     refine ⟨Q',?_,k2,k3⟩
     unfold G6
     have e1:P++Q++x::R++S=P++Q++x::(R++S):=by simp
     rw [show decide (((P.length+Q.length:Nat):Int)< ((P.length+ (a::A).length:Nat):Int))=true from bJ (by omega),bO]
     simp only [e1,k1,lB]
     rw [F2 (by simp only [lL]at hN hb;omega)]
     simp
   obtain ⟨A',h1,h2,h3⟩:=NP (lt:=XV) (P:=P) (S:=S) (P++a::A++S).length (P.length+ (a::A).length) hend hF A [a] (by simp) (by simp;omega) (List.pairwise_singleton _ _)
   refine ⟨A',?_,h2,h3⟩
   rw [hw,← h1];congr 1;simp
theorem XW (n:Nat)(h:n≤12): ∃v,Jl (IntKind.wrap .u64 (n:Int))=some v:=by
  have: ∀n:Fin 13,(Jl (IntKind.wrap .u64 ((n.val:Nat):Int))).isSome=true:=by decide+kernel
  exact Option.isSome_iff_exists.1 (this ⟨n,by omega⟩)
theorem kF (xs:List Int)(h:xs.length≤12): ∃ys,O5 xs=some ys∧ys.Perm xs∧Srt XV ys:=by
  obtain ⟨v,hv⟩:=XW _ h
  obtain ⟨ys,h1,h2,h3⟩:=kE [] xs [] (by simp;omega)
  refine ⟨ys,?_,h2,h3⟩
  unfold O5 O0
  rw [hv,lB,C5 (t:=ys)]
  ·rfl
  ·unfold N0
   simp only [lN,wK,lQ,lP]at h1
   have e:D6 ((xs.length:Int) - 0)≤12:=by rw [F2 (by omega)];omega
   rw [show decide (D6 ((xs.length:Int) - 0)≤12)=true from bJ e,bO]
   have h1':J3 xs 0 (xs.length:Int)=some ys:=h1
   rw [h1',lB]
theorem gB:O6=some ():=by
  obtain ⟨v,hv⟩:=XW 0 (by omega)
  unfold O6 O1
  rw [show IntKind.wrap .u64 0=IntKind.wrap .u64 ((0:Nat):Int) from rfl,hv,lB,C5 (t:=())]
  ·rfl
  ·unfold N1 L9
   rw [C5 (t:=())]
   ·rfl
   ·rfl
theorem CO: ∀(l:List Int) (x:Int),x∈Em l↔x∈l
  | [],_=> .rfl
  | [_],_=> .rfl
  |a::b::r,x=>by
   have ih:=CO (b::r) x
   rw [Em]
   by_cases e:a=b
   ·subst e
    rw [show (a==a)=true by simp,bO,ih]
    simp
   ·rw [show (a==b)=false by simp [e],bP,lU,ih,lU (a:=x) (b:=a)]
theorem BG: ∀(l:List Int),l.Pairwise (· ≤ ·)→(Em l).Pairwise (· < ·)
  | [],_=>List.Pairwise.nil
  | [_],_=>List.pairwise_singleton _ _
  |a::b::r,h=>by
   obtain ⟨h1,h2⟩:=bB.1 h
   have ih:=BG (b::r) h2
   rw [Em]
   by_cases e:a=b
   ·rw [show (a==b)=true by simp [e],bO];exact ih
   ·rw [show (a==b)=false by simp [e],bP]
    refine bB.2 ⟨fun x hx=> ?_,ih⟩
    have hx':=(CO _ _).1 hx
    have hb:=h1 b (by simp)
    rcases lU.1 hx' with rfl|hx'
    ·omega
    ·have:=(bB.1 h2).1 x hx';omega
theorem KW: ∀{l m:List Int},l.Pairwise (· < ·)→m.Pairwise (· < ·)→(∀x,x∈l↔x∈m)→l=m
  | [],[],_,_,_=>rfl
  | [],b::m,_,_,h=>absurd ((h b).2 (by simp)) (by simp)
  |a::l,[],_,_,h=>absurd ((h a).1 (by simp)) (by simp)
  |a::l,b::m,h1,h2,h=>by
   obtain ⟨a1,a2⟩:=bB.1 h1
   obtain ⟨b1,b2⟩:=bB.1 h2
   have hab:a=b:=by
     rcases lU.1 ((h a).1 (by simp))with e|e
     ·exact e
     ·rcases lU.1 ((h b).2 (by simp))with e'|e'
      ·exact e'.symm
      ·have:=a1 _ e';have:=b1 _ e;omega
   subst hab
   congr 1
   refine KW a2 b2 fun x=>⟨fun hx=> ?_,fun hx=> ?_⟩
   ·rcases lU.1 ((h x).1 (List.mem_cons_of_mem _ hx))with rfl|e
    ·exact absurd (a1 _ hx) (by omega)
    ·exact e
   ·rcases lU.1 ((h x).2 (List.mem_cons_of_mem _ hx))with rfl|e
    ·exact absurd (b1 _ hx) (by omega)
    ·exact e
structure SigOK (s:Signal):Prop where
  pos:0<s.Phases.length
  many:s.Phases.length≤6
  off:0≤s.Offset∧s.Offset≤1099511627776
  ticks: ∀p∈s.Phases,1≤p.Ticks∧p.Ticks≤10000
  green: ∀p∈s.Phases,p.Green.length≤1000000
theorem ValR.sig {m:Map}(B:BearM m)(V:ValR m){i:Nat}{s:Signal}(h:m.Signals[i]? =some s):SigOK s:=by
  have:=firstE_none.1 V.signalE i s h
  unfold World.signalE at this
  split at this
  ·cases this
  split at this
  ·cases this
  split at this
  ·cases this
  split at this
  ·cases this
  rename_i h1 h2 h3 h4
  refine ⟨by omega,by omega,?_,fun p hp=> ?_,(B.toBearS.phases s (lG h)).2⟩
  ·have:Ve s.Offset 0 1099511627776=true:=by simpa using h3
   simpa [Ve] using this
  ·have:Ve p.Ticks 1 10000=true:=by
     cases q:Ve p.Ticks 1 10000 with
     |true=>rfl
     |false=>exact absurd (lZ.2 ⟨p,hp,by rw [q];rfl⟩) h4
   simpa [Ve] using this
def Oh:List Phase→Int
  | []=>0
  |p::r=>p.Ticks+Oh r
def HD (lane:Int):Int→List Phase→Bool
  |_,[]=>false
  |at_,p::r=>if p.Ticks≤at_ then HD lane (at_ - p.Ticks) r else p.Green.contains lane
def Wf (s:Signal)(lane tick:Int):Bool:=HD lane ((s.Offset+tick) % Oh s.Phases) s.Phases
theorem XX: ∀{l:List Phase},(∀p∈l,1≤p.Ticks∧p.Ticks≤10000)→(l.length:Int)≤Oh l∧Oh l≤10000*l.length
  | [],_=>by simp [Oh]
  |p::r,h=>by
   have:=XX (l:=r) fun q hq=>h q (List.mem_cons_of_mem _ hq)
   have:=h p (by simp)
   simp only [Oh,lL]
   omega
theorem SigOK.sum {s:Signal}(S:SigOK s):1≤Oh s.Phases∧Oh s.Phases≤60000:=by
  have:=XX S.ticks
  have:=S.pos
  have:=S.many
  omega
theorem qN (s:Signal)(S:SigOK s): ∀(r:List Phase) (i:Nat) (a:Int),s.Phases.drop i=r→i≤s.Phases.length→0≤a→a+10000*r.length≤1000000→loop (Ce s) (a,(i:Int))=some (a+Oh r):=by
  intro r
  induction r with
  |nil=>
   intro i a hi hil h0 h1
   have:=N8 hi
   obtain rfl:i=s.Phases.length:=by omega
   refine C5 ?_
   unfold Ce
   rw [H9];simp [Oh]
  |cons p r ih=>
   intro i a hi hil h0 h1
   have hlt:=M9 hi
   have hp:=U7 hi
   have hb:=S.ticks p (lG hp)
   simp only [lL]at h1
   have hs:Ce s (a,(i:Int))=some (.go (a+p.Ticks,((i+1:Nat):Int))):=by
     unfold Ce
     dsimp only
     rw [J9 hlt,C3 hp,bO,lB,F2 (by omega),G8 hlt (by have:=S.many;omega)]
   rw [J2 hs,ih (i+1) _ (K5 hi) (by omega) (by omega) (by omega),Oh]
   congr 1;omega
theorem qO (s:Signal)(S:SigOK s)(lane:Int): ∀(r:List Phase) (i:Nat) (a:Int),s.Phases.drop i=r→i≤s.Phases.length→0≤a→a≤1000000→thenS (loop (U4 s lane) (a,(i:Int))) (fun _=>some false) (fun r=>some r)=some (HD lane a r):=by
  intro r
  induction r with
  |nil=>
   intro i a hi hil h0 h1
   have:=N8 hi
   obtain rfl:i=s.Phases.length:=by omega
   rw [C5 (t:= .inl ())]
   ·rfl
   ·unfold U4
    rw [H9];rfl
  |cons p r ih=>
   intro i a hi hil h0 h1
   have hlt:=M9 hi
   have hp:=U7 hi
   have hb:=S.ticks p (lG hp)
   by_cases hc:p.Ticks≤a
   ·have hs:U4 s lane (a,(i:Int))=some (.go (a - p.Ticks,((i+1:Nat):Int))):=by
      unfold U4
      dsimp only
      rw [J9 hlt,C3 hp,bO,lB,show decide (a≥p.Ticks)=true from bJ hc,bO,F2 (by omega),G8 hlt (by have:=S.many;omega)]
    rw [J2 hs,ih (i+1) _ (K5 hi) (by omega) (by omega) (by omega),HD,bQ hc]
   ·have hs:U4 s lane (a,(i:Int))=some (.out (.inr (p.Green.contains lane))):=by
      unfold U4
      dsimp only
      rw [J9 hlt,C3 hp,bO,lB,show decide (a≥p.Ticks)=false from bK (by omega),bP,Zd _ (S.green p (lG hp)),lB]
    rw [C5 hs,HD,bR hc];rfl
theorem mQ {s:Signal}(S:SigOK s){tick:Int}(h:0≤tick):(D6 (s.Offset.tmod (Oh s.Phases)+tick.tmod (Oh s.Phases))).tmod (Oh s.Phases)=(s.Offset+tick) % Oh s.Phases:=by
  obtain ⟨h1,h2⟩:=S.sum
  have ho:=S.off.1
  rw [wQ ho,wQ h]
  have a1:=wR s.Offset (b:=Oh s.Phases) (by omega)
  have a2:=wR tick (b:=Oh s.Phases) (by omega)
  have a3:=wS s.Offset (b:=Oh s.Phases) (by omega)
  have a4:=wS tick (b:=Oh s.Phases) (by omega)
  rw [F2 (by omega),wQ (by omega),← Int.add_emod]
theorem NQ {s:Signal}(S:SigOK s)(lane:Int){tick:Int}(h:0≤tick):Fh s lane tick=some (Wf s lane tick):=by
  obtain ⟨h1,h2⟩:=S.sum
  unfold Fh
  have e1:loop (Ce s) (0,0)=some (Oh s.Phases):=by
    have:=qN s S s.Phases 0 0 rfl (by omega) (by omega) (by have:=S.many;omega)
    rw [Int.zero_add]at this;exact this
  have hne:Oh s.Phases≠0:=by omega
  rw [e1,lB]
  unfold Vk
  rw [bR hne,lB,bR hne,lB,bR hne,lB,mQ S h]
  refine qO s S lane s.Phases 0 _ rfl (by omega) (wR _ hne) ?_
  have:=wS (s.Offset+tick) (b:=Oh s.Phases) (by omega)
  omega
noncomputable def GA (m:Map)(g lane tick:Int):Bool:=(((decide (tick≥0))&& (decide (g≥0)))&& (decide (g< (m.Signals.length:Int))))&&QG m lane&&Wf (m.Signals.getD g.toNat default) lane tick
theorem gC {m:Map}(B:BearM m)(g lane tick:Int):Hv m g lane tick=some (GA m g lane tick):=by
  unfold Hv GA
  rw [Zc B]
  cases hc:(((decide (tick≥0))&& (decide (g≥0)))&& (decide (g< (m.Signals.length:Int))))
  ·rfl
  ·cases hi:QG m lane
   ·rfl
   ·simp only [bU,bM]at hc
    obtain ⟨⟨c1,c2⟩,c3⟩:=hc
    have hl:g.toNat<m.Signals.length:=by omega
    have hget:m.Signals[g.toNat]? =some (m.Signals.getD g.toNat default):=by rw [List.getD,lH hl];rfl
    have hg:C0 m.Signals g=some (m.Signals.getD g.toNat default):=by unfold C0;rw [bQ c2,hget]
    have S:=((isM_true.1 hi).2.2).sig B hget
    simp only [bO,lB,bS,hg,NQ S lane c1]
theorem Ms {high:Int}: ∀{l:List Int} {low:Int},Co high low l=true→l.Pairwise (· < ·)
  | [],_,_=>List.Pairwise.nil
  |n::r,low,h=>by
   simp only [Co,bU]at h
   refine bB.2 ⟨fun x hx=> ?_,Ms h.2⟩
   have:=(Lf h.2 x hx).1
   omega
def Xa (m:Map)(z:Zone):Signal:=m.Signals.getD (z.Signal_ - 1).toNat default
def Kp (m:Map)(lane tick:Int)(z:Zone)(p:Part):Option Int:=if p.Lane_==lane&& !Wf (Xa m z) lane tick then some p.From else none
def Cq (m:Map)(lane tick:Int)(z:Zone):List Int:=if z.Signal_==0 then []else z.Parts.filterMap (Kp m lane tick z)
def KX (m:Map)(lane tick:Int):List Int:=m.Zones.flatMap (Cq m lane tick)
theorem SV (m:Map)(lane tick:Int)(z:Zone): ∀l:List Part,(l.map (·.Lane_)).Pairwise (· < ·)→(l.filterMap (Kp m lane tick z)).length≤1
  | [],_=>by simp
  |p::r,h=>by
   obtain ⟨h1,h2⟩:=bB.1 h
   rw [List.filterMap_cons]
   by_cases e:p.Lane_=lane
   ·have:r.filterMap (Kp m lane tick z)= []:=by
      rw [List.filterMap_eq_nil_iff]
      intro q hq
      have:p.Lane_<q.Lane_:=h1 q.Lane_ (List.mem_map_of_mem hq)
      unfold Kp
      rw [show (q.Lane_==lane)=false by simp;omega];rfl
    rw [this]
    cases Kp m lane tick z p<;>simp
   ·have:Kp m lane tick z p=none:=by unfold Kp;rw [show (p.Lane_==lane)=false by simp [e]];rfl
    rw [this]
    exact SV m lane tick z r h2
theorem BH {m:Map}{z:Zone}(Z:ZoneOK m z)(lane tick:Int):(Cq m lane tick z).length≤1:=by
  unfold Cq
  split
  ·simp
  ·exact SV m lane tick z _ (Ms Z.rise)
theorem SW {m:Map}(lane tick:Int): ∀l:List Zone,(∀z∈l,ZoneOK m z)→(l.flatMap (Cq m lane tick)).length≤l.length
  | [],_=>by simp
  |z::r,h=>by
   rw [bF,lM,lL]
   have:=BH (h z (by simp)) lane tick
   have:=SW lane tick r fun y hy=>h y (List.mem_cons_of_mem _ hy)
   omega
theorem nZ {m:Map}(B:BearM m)(V:ValR m)(lane:Int){tick:Int}(ht:0≤tick)(z:Zone)(Z:ZoneOK m z)(hz:z.Signal_≠0): ∀(r:List Part) (i:Nat) (out:List Int),z.Parts.drop i=r→i≤z.Parts.length→out.length+r.length≤1000→
    loop (Ah m lane tick z) (out,(i:Int))=some (out++r.filterMap (Kp m lane tick z)):=by
  intro r
  induction r with
  |nil=>
   intro i out hi hil hl
   have:=N8 hi
   obtain rfl:i=z.Parts.length:=by omega
   refine C5 ?_
   unfold Ah
   rw [H9];simp
  |cons p r ih=>
   intro i out hi hil hl
   have hlt:=M9 hi
   have hp:=U7 hi
   have hsz:=Z.six
   simp only [lL]at hl
   have hw:D6 (z.Signal_ - 1)=z.Signal_ - 1:=F2 (by have:=Z.sig;have:=V.signals;omega)
   have hk:(z.Signal_ - 1).toNat<m.Signals.length:=by have:=Z.sig;omega
   have hget:m.Signals[(z.Signal_ - 1).toNat]? =some (Xa m z):=by rw [Xa,List.getD,lH hk];rfl
   have hg:C0 m.Signals (z.Signal_ - 1)=some (Xa m z):=by unfold C0;rw [bQ (by have:=Z.sig;omega),hget]
   have hs:Ah m lane tick z (out,(i:Int))=some (.go ((match Kp m lane tick z p with|some b=>out++ [b]|none=>out),((i+1:Nat):Int))):=by
     unfold Ah Kp
     dsimp only
     rw [J9 hlt,C3 hp,bO,lB,hw,hg,G8 hlt (by omega)]
     cases p.Lane_==lane
     ·rfl
     ·simp only [bO,lB,bS]
      rw [NQ (V.sig B hget) lane ht,lB]
      cases Wf (Xa m z) lane tick
      ·simp only [bX,bO,if_true]
       rw [Ey (by simp;omega),lB]
      ·rfl
   rw [J2 hs,List.filterMap_cons]
   cases Kp m lane tick z p with
   |none=>exact ih (i+1) out (K5 hi) (by omega) (by omega)
   |some b=>
    dsimp only
    rw [ih (i+1) (out++ [b]) (K5 hi) (by omega) (by simp;omega)]
    simp
theorem oA {m:Map}(B:BearM m)(V:ValR m)(lane:Int){tick:Int}(ht:0≤tick): ∀(r:List Zone) (i:Nat) (out:List Int),m.Zones.drop i=r→i≤m.Zones.length→out.length+r.length≤100→
    loop (Ai m lane tick) (out,(i:Int))=some (out++r.flatMap (Cq m lane tick)):=by
  intro r
  induction r with
  |nil=>
   intro i out hi hil hl
   have:=N8 hi
   obtain rfl:i=m.Zones.length:=by omega
   refine C5 ?_
   unfold Ai
   rw [H9];simp
  |cons z r ih=>
   intro i out hi hil hl
   have hlt:=M9 hi
   have hz:=U7 hi
   have Z:=V.zoneOK (lG hz)
   simp only [lL]at hl
   have hn:=V.zones
   have hs:Ai m lane tick (out,(i:Int))=some (.go (out++Cq m lane tick z,((i+1:Nat):Int))):=by
     unfold Ai Cq
     dsimp only
     rw [J9 hlt,C3 hz,bO,lB,G8 hlt (by omega)]
     by_cases e:z.Signal_=0
     ·rw [show (z.Signal_==0)=true by simp [e],bO,bQ rfl];simp
     ·rw [show (z.Signal_==0)=false by simp [e],bP,bR (by simp)]
      have:=nZ B V lane ht z Z e z.Parts 0 out rfl (by omega) (by have:=Z.six;omega)
      have this':loop (Ah m lane tick z) (out,0)=_:=this
      rw [this',lB]
   have:=BH Z lane tick
   rw [J2 hs,ih (i+1) _ (K5 hi) (by omega) (by rw [lM];omega),bF,lO]
/-- The red lines: strictly ascending, and those that there are. -/
theorem kG {m:Map}(B:BearM m)(V:ValR m)(lane:Int){tick:Int}(ht:0≤tick): ∃R,My m lane tick=some R∧R.Pairwise (· < ·)∧(∀x,x∈R↔x∈KX m lane tick)∧R.length≤1000:=by
  have hlen:(KX m lane tick).length≤12:=wL (SW lane tick m.Zones fun z hz=>V.zoneOK hz) V.zones
  have h1:loop (Ai m lane tick) ([],0)=some (KX m lane tick):=by
    have:=oA B V lane ht m.Zones 0 [] rfl (by omega) (by simp;have:=V.zones;omega)
    rw [lQ]at this
    exact this
  unfold My
  rw [h1,lB]
  cases q:KX m lane tick with
  |nil=>exact ⟨[],by rw [gB];rfl,List.Pairwise.nil,fun x=> .rfl,by simp⟩
  |cons a l=>
   rw [q]at hlen
   obtain ⟨ys,g1,g2,g3⟩:=kF (a::l) hlen
   have hys:ys≠ []:=by rintro rfl;exact absurd g2.length_eq (by simp)
   have hc:DY ys=some (Em ys):=by cases ys with|nil=>exact absurd rfl hys|cons=>rfl
   refine ⟨Em ys,by rw [show List.isEmpty (a::l)=false from rfl,bP,g1,lB,hc];rfl,BG _ (g3.imp fun {a b} h=> ?_),fun x=>(CO _ _).trans g2.mem_iff,?_⟩
   ·simp only [XV,wC]at h;omega
   ·have: ∀l:List Int,(Em l).length≤l.length:=by
      intro l
      induction l with
      |nil=>simp [Em]
      |cons a l ih=>
       cases l with
       |nil=>simp [Em]
       |cons b r=>
        rw [Em]
        cases a==b
        ·simp only [bP,lL]at ih ⊢;omega
        ·simp only [bO,lL]at ih ⊢;omega
    have h2:=this ys
    rw [g2.length_eq]at h2
    omega
theorem oC {m:Map}(B:BearM m)(lane tick:Int): ∃R,Es m lane tick=some R∧R.Pairwise (· < ·)∧(∀x,x∈R↔ (0≤tick∧QG m lane=true∧x∈KX m lane tick))∧R.length≤1000:=by
  unfold Es
  rw [Zc B]
  by_cases ht:tick<0
  ·exact ⟨[],by rw [show decide (tick<0)=true from bJ ht];rfl,List.Pairwise.nil,fun x=>⟨fun h=>absurd h (by simp),fun h=>by omega⟩,by simp⟩
  ·rw [show decide (tick<0)=false from bK ht]
   cases hi:QG m lane
   ·exact ⟨[],rfl,List.Pairwise.nil,fun x=>⟨fun h=>absurd h (by simp),fun h=>by cases h.2.1⟩,by simp⟩
   ·obtain ⟨R,g1,g2,g3,g4⟩:=kG B (isM_true.1 hi).2.2 lane (tick:=tick) (by omega)
    exact ⟨R,by simp only [bX,bO,lB,bW,Bool.or_false,bP,g1],g2,fun x=>(g3 x).trans ⟨fun h=>⟨by omega,rfl,h⟩,fun h=>h.2.2⟩,g4⟩
end Go.Abs.World
namespace Go.Abs
open Go
section
variable {α β σ τ:Type}
/-- What rounds put one behind the other. -/
def Tm (g:Nat→α→List β):Nat→List α→List β
  |_,[]=> []
  |i,a::r=>g i a++Tm g (i+1) r
theorem NR (g:Nat→α→List β)(C:Nat): ∀(l:List α) (i:Nat),(∀(j:Nat) a,l[j]? =some a→(g (i+j) a).length≤C)→(Tm g i l).length≤l.length*C
  | [],_,_=>by simp [Tm]
  |a::r,i,h=>by
   have h1:=h 0 a rfl
   have h2:=NR g C r (i+1) (fun j b hb=>by have:=h (j+1) b (by simpa using hb);rwa [show i+1+j=i+ (j+1) by omega])
   rw [Tm,lM,lL,Nat.succ_mul]
   rw [Nat.add_zero]at h1
   omega
end
end Go.Abs
namespace Go.Abs.World
open Go Go.Abs
theorem SX {z:Zone}(hl:z.Parts.length≤1000000)(k:Int):Sh z k=some (Jv z k):=by
  have key: ∀(r:List Part) (i:Nat),z.Parts.drop i=r→i≤z.Parts.length→thenS (loop (Gh z k) (i:Int)) (fun _=>some ((⟨0,0,0,0⟩:Part),false)) (fun r=>some r)=some (match r.find? (fun p=>p.Lane_==k)with|some p=>(p,true)|none=>(⟨0,0,0,0⟩,false)):=by
    intro r
    induction r with
    |nil=>
     intro i hi hil
     have:=N8 hi
     obtain rfl:i=z.Parts.length:=by omega
     rw [C5 (t:= .inl ()) (by unfold Gh;rw [H9];rfl)];rfl
    |cons p r ih=>
     intro i hi hil
     have hlt:=M9 hi
     have hp:=U7 hi
     rw [List.find?_cons]
     cases q:p.Lane_==k
     ·rw [J2 (s':=((i+1:Nat):Int)) (by unfold Gh;rw [J9 hlt,C3 hp,bO,lB,q,G8 hlt (by omega)];rfl)]
      exact ih (i+1) (K5 hi) (by omega)
     ·rw [C5 (t:= .inr (p,true)) (by unfold Gh;rw [J9 hlt,C3 hp,bO,lB,q,bO,lB])];rfl
  exact key z.Parts 0 rfl (by omega)
theorem pP (s:Signal)(S:SigOK s): ∀(r:List Phase) (i:Nat) (a:Int),s.Phases.drop i=r→i≤s.Phases.length→0≤a→a+10000*r.length≤1000000→loop (Cg s) (a,(i:Int))=some (a+Oh r):=by
  intro r
  induction r with
  |nil=>
   intro i a hi hil h0 h1
   have:=N8 hi
   obtain rfl:i=s.Phases.length:=by omega
   refine C5 ?_
   unfold Cg
   rw [H9];simp [Oh]
  |cons p r ih=>
   intro i a hi hil h0 h1
   have hlt:=M9 hi
   have hp:=U7 hi
   have hb:=S.ticks p (lG hp)
   simp only [lL]at h1
   have hs:Cg s (a,(i:Int))=some (.go (a+p.Ticks,((i+1:Nat):Int))):=by
     unfold Cg
     dsimp only
     rw [J9 hlt,C3 hp,bO,lB,F2 (by omega),G8 hlt (by have:=S.many;omega)]
   rw [J2 hs,ih (i+1) _ (K5 hi) (by omega) (by omega) (by omega),Oh]
   congr 1;omega
theorem pQ (s:Signal)(S:SigOK s)(lane:Int): ∀(r:List Phase) (i:Nat) (a:Int),s.Phases.drop i=r→i≤s.Phases.length→0≤a→a≤1000000→thenS (loop (Am s lane) (a,(i:Int))) (fun _=>some false) (fun r=>some r)=some (HD lane a r):=by
  intro r
  induction r with
  |nil=>
   intro i a hi hil h0 h1
   have:=N8 hi
   obtain rfl:i=s.Phases.length:=by omega
   rw [C5 (t:= .inl ())]
   ·rfl
   ·unfold Am
    rw [H9];rfl
  |cons p r ih=>
   intro i a hi hil h0 h1
   have hlt:=M9 hi
   have hp:=U7 hi
   have hb:=S.ticks p (lG hp)
   by_cases hc:p.Ticks≤a
   ·have hs:Am s lane (a,(i:Int))=some (.go (a - p.Ticks,((i+1:Nat):Int))):=by
      unfold Am
      dsimp only
      rw [J9 hlt,C3 hp,bO,lB,show decide (a<p.Ticks)=false from bK (by omega),bP,lB,F2 (by omega),G8 hlt (by have:=S.many;omega)]
    rw [J2 hs,ih (i+1) _ (K5 hi) (by omega) (by omega) (by omega),HD,bQ hc]
   ·have hs:Am s lane (a,(i:Int))=some (.out (.inr (p.Green.contains lane))):=by
      unfold Am
      dsimp only
      rw [J9 hlt,C3 hp,bO,lB,show decide (a<p.Ticks)=true from bJ (by omega),bO,lB,VS _ (S.green p (lG hp)),lB]
    rw [C5 hs,HD,bR hc];rfl
theorem NS {s:Signal}(S:SigOK s)(lane:Int){tick:Int}(h:0≤tick):Nc s lane tick=some (Wf s lane tick):=by
  obtain ⟨h1,h2⟩:=S.sum
  unfold Nc
  have e1:loop (Cg s) (0,0)=some (Oh s.Phases):=by
    have:=pP s S s.Phases 0 0 rfl (by omega) (by omega) (by have:=S.many;omega)
    rw [Int.zero_add]at this;exact this
  have hne:Oh s.Phases≠0:=by omega
  rw [e1,lB]
  unfold Vk
  rw [bR hne,lB,bR hne,lB,bR hne,lB,mQ S h]
  refine pQ s S lane s.Phases 0 _ rfl (by omega) (wR _ hne) ?_
  have:=wS (s.Offset+tick) (b:=Oh s.Phases) (by omega)
  omega
theorem ZZ {m:Map}(B:BearM m)(g lane tick:Int):Py m g lane tick=some (GA m g lane tick):=by
  unfold Py GA
  rw [Ub B,lB]
  have e:(((QG m lane&& (decide (g≥0)))&& (decide (g< (m.Signals.length:Int))))&& (decide (tick≥0)))=((((decide (tick≥0))&& (decide (g≥0)))&& (decide (g< (m.Signals.length:Int))))&&QG m lane):=by
    cases QG m lane<;>cases decide (g≥0)<;>cases decide (g< (m.Signals.length:Int))<;>cases decide (tick≥0)<;>rfl
  rw [e]
  cases hc:((((decide (tick≥0))&& (decide (g≥0)))&& (decide (g< (m.Signals.length:Int))))&&QG m lane)
  ·rfl
  ·simp only [bU,bM]at hc
   obtain ⟨⟨⟨c1,c2⟩,c3⟩,c4⟩:=hc
   have hl:g.toNat<m.Signals.length:=by omega
   have hget:m.Signals[g.toNat]? =some (m.Signals.getD g.toNat default):=by rw [List.getD,lH hl];rfl
   have hg:C0 m.Signals g=some (m.Signals.getD g.toNat default):=by unfold C0;rw [bQ c2,hget]
   have S:=((isM_true.1 c4).2.2).sig B hget
   simp only [bO,lB,bS,hg,NS S lane c1]
theorem NT (m:Map)(lane tick:Int)(z:Zone): ∀l:List Part,(l.map (·.Lane_)).Pairwise (· < ·)→l.filterMap (Kp m lane tick z)=match l.find? (fun p=>p.Lane_==lane)with|some p=>if Wf (Xa m z) lane tick=true then []else [p.From]|none=> []
  | [],_=>rfl
  |p::r,h=>by
   obtain ⟨h1,h2⟩:=bB.1 h
   rw [List.filterMap_cons,List.find?_cons]
   by_cases e:p.Lane_=lane
   ·have:r.filterMap (Kp m lane tick z)= []:=by
      rw [List.filterMap_eq_nil_iff]
      intro q hq
      have:p.Lane_<q.Lane_:=h1 q.Lane_ (List.mem_map_of_mem hq)
      unfold Kp
      rw [show (q.Lane_==lane)=false by simp;omega];rfl
    rw [this,show (p.Lane_==lane)=true by simp [e]]
    unfold Kp
    rw [show (p.Lane_==lane)=true by simp [e]]
    cases Wf (Xa m z) lane tick<;>rfl
   ·have:Kp m lane tick z p=none:=by unfold Kp;rw [show (p.Lane_==lane)=false by simp [e]];rfl
    rw [this,show (p.Lane_==lane)=false by simp [e]]
    exact NT m lane tick z r h2
theorem kH (out:List Int)(q:Part×Bool)(i0:Int)(hl:out.length≤1000): ∀(r:List Int) (i:Nat),out.drop i=r→i≤out.length→loop (Hj (out,i0) q) (i:Int)=some ((i+ (r.takeWhile fun y=>decide (y<q.1.From)).length:Nat):Int):=by
  intro r
  induction r with
  |nil=>
   intro i hi hil
   have:=N8 hi
   obtain rfl:i=out.length:=by omega
   refine C5 ?_
   unfold Hj
   dsimp only
   rw [H9];rfl
  |cons y r ih=>
   intro i hi hil
   have hlt:=M9 hi
   have hy:=U7 hi
   rw [List.takeWhile_cons]
   by_cases hc:y<q.1.From
   ·rw [bQ (by simpa using hc),lL,J2 (s':=((i+1:Nat):Int)),ih (i+1) (K5 hi) (by omega)]
    ·congr 2;omega
    ·unfold Hj
     dsimp only
     rw [J9 hlt,C3 hy,bO,lB,show decide (y<q.1.From)=true from bJ hc,Bool.and_true,bO,G8 hlt (by omega)]
   ·rw [bR (by simpa using hc)]
    refine C5 ?_
    unfold Hj
    dsimp only
    rw [J9 hlt,C3 hy,bO,lB,show decide (y<q.1.From)=false from bK hc];rfl
theorem aA {α:Type}(L R:List α):AA (L++R) 0 (L.length:Int)=some L:=by
  unfold AA
  rw [bQ ⟨by omega,by omega,by simp;omega⟩]
  simp
theorem WA {α:Type}(L R:List α):AA (L++R) (L.length:Int) ((L++R).length:Int)=some R:=by
  unfold AA
  rw [bQ ⟨by omega,by simp;omega,by omega⟩,show (((L++R).length:Int)).toNat=(L++R).length from wF _,List.take_length,show ((L.length:Int)).toNat=L.length from wF _,List.drop_left]
theorem gD {α:Type}{p:α→Bool}: ∀{l:List α} {x:α},x∈l.takeWhile p→p x=true
  | [],_,h=>by simp at h
  |a::r,x,h=>by
   rw [List.takeWhile_cons]at h
   split at h
   ·rename_i ha
    rcases lU.1 h with rfl|h
    ·exact ha
    ·exact gD h
   ·simp at h
/-- A number is put into a list that is strictly ascending. -/
theorem gE (out:List Int)(x:Int)(hs:out.Pairwise (· < ·))(hl:out.length≤500): ∃out':List Int,∀(i':Int),((cond (decide (((out.takeWhile fun y=>decide (y<x)).length:Int)< (out.length:Int))) (C0 out ((out.takeWhile fun y=>decide (y<x)).length:Int)) (some default)).bind fun v6=>cond ((decide (((out.takeWhile fun y=>decide (y<x)).length:Int)< (out.length:Int)))&& (v6==x)) (some (.go (out,i'):Stp (List Int×Int) (List Int))) ((AA out 0 ((out.takeWhile fun y=>decide (y<x)).length:Int)).bind fun v7=>(X3 ([]:List Int) v7).bind fun v8=>(X3 v8 [x]).bind fun v9=>(AA out ((out.takeWhile fun y=>decide (y<x)).length:Int) (out.length:Int)).bind fun v10=>(X3 v9 v10).bind fun v11=>some (.go (v11,i'))))=some (.go (out',i'))∧
    out'.Pairwise (· < ·)∧(∀y,y∈out'↔y=x∨y∈out)∧out'.length≤out.length+1:=by
  have e:=List.takeWhile_append_dropWhile (p:=fun y=>decide (y<x)) (l:=out)
  have hL: ∀y∈out.takeWhile (fun y=>decide (y<x)),y<x:=fun y hy=>by
    have:=gD hy
    simpa using this
  have hR0: ∀y R',out.dropWhile (fun y=>decide (y<x))=y::R'→x≤y:=fun y R' h=>by
    have:=List.head?_dropWhile_not (fun y=>decide (y<x)) out
    rw [h]at this
    simp at this;exact this
  generalize out.takeWhile (fun y=>decide (y<x))=L at*
  generalize out.dropWhile (fun y=>decide (y<x))=R at*
  subst e
  have hll:L.length+R.length≤500:=by simpa using hl
  have hgo: ∀i':Int,((AA (L++R) 0 (L.length:Int)).bind fun v7=>(X3 ([]:List Int) v7).bind fun v8=>(X3 v8 [x]).bind fun v9=>(AA (L++R) (L.length:Int) ((L++R).length:Int)).bind fun v10=>(X3 v9 v10).bind fun v11=>some (.go (v11,i'):Stp (List Int×Int) (List Int)))=some (.go (L++x::R,i')):=fun i'=>by
    rw [aA,lB,Ey (by simp;omega),lB,lQ,Ey (by simp;omega),lB,WA,lB,Ey (by simp;omega),lB]
    simp
  obtain ⟨p1,p2,p3⟩:=bC.1 hs
  cases R with
  |nil=>
   refine ⟨L++ [x],fun i'=> ?_⟩
   have:=hgo i'
   refine ⟨?_,bC.2 ⟨p1,List.pairwise_singleton _ _,fun y hy z hz=>by rw [bI.1 hz];exact hL y hy⟩,fun y=>by simp [or_comm],by simp⟩
   rw [show decide ((L.length:Int)< ((L++ ([]:List Int)).length:Int))=false from bK (by simp)]
   simp only [bP,lB,bT]
   exact this
  |cons y R=>
   have hy:=hR0 y R rfl
   have hg:C0 (L++y::R) (L.length:Int)=some y:=Lx _ _ _ _ rfl
   by_cases hxy:y=x
   ·subst hxy
    refine ⟨L++y::R,fun i'=>⟨?_,hs,fun z=>⟨.inr,fun h=>h.elim (fun h=>by rw [h];simp) id⟩,by simp⟩⟩
    rw [show decide ((L.length:Int)< ((L++y::R).length:Int))=true from bJ (by simp;omega)]
    simp only [bO,hg,lB,bS]
    rw [show (y==y)=true by simp];rfl
   ·refine ⟨L++x::y::R,fun i'=> ?_⟩
    have:=hgo i'
    obtain ⟨q1,q2⟩:=bB.1 p2
    refine ⟨?_,bC.2 ⟨p1,bB.2 ⟨fun z hz=> ?_,p2⟩,fun a ha b hb=> ?_⟩,fun z=>by simp only [lT,lU];constructor<;>(intro h;rcases h with h|h|h|h<;>simp [h]),by simp;omega⟩
    ·rw [show decide ((L.length:Int)< ((L++y::R).length:Int))=true from bJ (by simp;omega)]
     simp only [bO,hg,lB,bS]
     rw [show (y==x)=false by simp [hxy],bP]
     exact this
    ·rcases lU.1 hz with rfl|hz
     ·omega
     ·have:=q1 z hz;omega
    ·rcases lU.1 hb with rfl|hb
     ·exact hL a ha
     ·exact p3 a ha b hb
theorem oF {m:Map}(B:BearM m)(V:ValR m)(lane:Int){tick:Int}(ht:0≤tick): ∀(r:List Zone) (i:Nat) (out:List Int),m.Zones.drop i=r→i≤m.Zones.length→out.Pairwise (· < ·)→out.length+r.length≤100→
    ∃R,loop (Hl m lane tick) (out,(i:Int))=some R∧R.Pairwise (· < ·)∧(∀y,y∈R↔y∈out∨y∈r.flatMap (Cq m lane tick))∧R.length≤100:=by
  intro r
  induction r with
  |nil=>
   intro i out hi hil hs hl
   have:=N8 hi
   obtain rfl:i=m.Zones.length:=by omega
   refine ⟨out,C5 ?_,hs,fun y=>by simp,by simpa using hl⟩
   unfold Hl
   rw [H9];rfl
  |cons z r ih=>
   intro i out hi hil hs hl
   have hlt:=M9 hi
   have hz:=U7 hi
   have hzm:=lG hz
   have Z:=V.zoneOK hzm
   have hsg:=Z.sig
   have hns:=V.signals
   have hnz:=V.zones
   simp only [lL]at hl
   have hpl:z.Parts.length≤1000000:=by have:=Z.six;omega
   suffices h: ∃out',Hl m lane tick (out,(i:Int))=some (.go (out',((i+1:Nat):Int)))∧out'.Pairwise (· < ·)∧(∀y,y∈out'↔y∈out∨y∈Cq m lane tick z)∧out'.length≤out.length+1 by
     obtain ⟨out',g1,g2,g3,g4⟩:=h
     obtain ⟨R,k1,k2,k3,k4⟩:=ih (i+1) out' (K5 hi) (by omega) g2 (by omega)
     refine ⟨R,by rw [J2 g1];exact k1,k2,fun y=> ?_,k4⟩
     rw [k3,g3,bF,lT,or_assoc]
   unfold Hl
   dsimp only
   rw [J9 hlt,C3 hz,bO,lB,SX hpl,lB,G8 hlt (by omega),F2 (n:=z.Signal_ - 1) (by omega)]
   have hzl:Cq m lane tick z=if z.Signal_==0 then []else match z.Parts.find? (fun p=>p.Lane_==lane)with|some p=>if Wf (Xa m z) lane tick=true then []else [p.From]|none=> []:=by
     unfold Cq
     rw [NT m lane tick z z.Parts (Ms Z.rise)]
   have hskip:Cq m lane tick z= []→∃out',some (.go (out,((i+1:Nat):Int)):Stp (List Int×Int) (List Int))=some (.go (out',((i+1:Nat):Int)))∧out'.Pairwise (· < ·)∧(∀y,y∈out'↔y∈out∨y∈Cq m lane tick z)∧out'.length≤out.length+1:=fun h=>⟨out,rfl,hs,fun y=>by rw [h];simp,by omega⟩
   cases hp:z.Parts.find? (fun p=>p.Lane_==lane)with
   |none=>
    have hpm:Jv z lane=(⟨0,0,0,0⟩,false):=by unfold Jv;rw [hp]
    rw [hpm]
    simp only [bX,Bool.true_or,bW,bP,lB,bO]
    refine hskip ?_
    rw [hzl,hp]
    split<;>rfl
   |some p=>
    have hpm:Jv z lane=(p,true):=by unfold Jv;rw [hp]
    rw [hpm]
    by_cases h0:z.Signal_=0
    ·rw [show (z.Signal_==0)=true by simp [h0]]
     simp only [bW,bY,bP,lB,Bool.true_or,bO]
     refine hskip ?_
     rw [hzl,bQ (by simp [h0])]
    ·have hk:(z.Signal_ - 1).toNat<m.Signals.length:=by omega
     have hget:m.Signals[(z.Signal_ - 1).toNat]? =some (Xa m z):=by rw [Xa,List.getD,lH hk];rfl
     have hg:C0 m.Signals (z.Signal_ - 1)=some (Xa m z):=by unfold C0;rw [bQ (by omega),hget]
     rw [show (z.Signal_==0)=false by simp [h0]]
     simp only [bW,bY,bX,bO,lB,hg,NS (V.sig B hget) lane ht]
     rw [bR (by simp [h0]),hp]at hzl
     cases hgr:Wf (Xa m z) lane tick with
     |true=>
      rw [bO]
      refine hskip ?_
      rw [hzl,hgr];rfl
     |false=>
      rw [hgr]at hzl
      have hzl':Cq m lane tick z= [p.From]:=hzl
      have h2:loop (Hj (out,(i:Int)) (p,true)) 0=some (((out.takeWhile fun y=>decide (y<p.From)).length:Nat):Int):=by
        have:=kH out (p,true) (i:Int) (by omega) out 0 rfl (by omega)
        rw [wK]at this
        exact this
      obtain ⟨out',hk1⟩:=gE out p.From hs (by omega)
      obtain ⟨k1,k2,k3,k4⟩:=hk1 ((i+1:Nat):Int)
      rw [bP,h2,lB]
      exact ⟨out',k1,k2,fun y=>by rw [k3,hzl',bI,or_comm],k4⟩
theorem kI {m:Map}(B:BearM m)(lane tick:Int): ∃R,Es m lane tick=some R∧Up m lane tick=some R∧R.length≤1000:=by
  obtain ⟨R,r1,r2,r3,r4⟩:=oC B lane tick
  refine ⟨R,r1,?_,r4⟩
  unfold Up
  rw [Ub B,lB]
  by_cases ht:tick<0
  ·have:R= []:=List.eq_nil_iff_forall_not_mem.2 fun x hx=>by have:=(r3 x).1 hx;omega
   rw [this,show decide (tick<0)=true from bJ ht,Bool.or_true];rfl
  ·rw [show decide (tick<0)=false from bK ht,Bool.or_false]
   cases hi:QG m lane
   ·have:R= []:=List.eq_nil_iff_forall_not_mem.2 fun x hx=>by have:=(r3 x).1 hx;rw [hi]at this;cases this.2.1
    rw [this];rfl
   ·have V:=(isM_true.1 hi).2.2
    obtain ⟨R',k1,k2,k3,_⟩:=oF B V lane (tick:=tick) (by omega) m.Zones 0 [] rfl (by omega) List.Pairwise.nil (by simp;have:=V.zones;omega)
    have k1':loop (Hl m lane tick) ([],0)=some R':=k1
    have:R=R':=KW r2 k2 fun x=>by
      rw [r3,k3]
      exact ⟨fun h=> .inr h.2.2,fun h=>⟨by omega,hi,h.elim (fun h=>absurd h (by simp)) id⟩⟩
    unfold GW
    rw [this,k1'];rfl
def EU (x y:Int):Int:=if x<y then -1 else if x>y then 1 else 0
def kJ (a b:Pass):Int:=if EU a.From b.From≠0 then EU a.From b.From else EU a.Zone_ b.Zone_
def Xb (a b:Pass):Bool:=decide (a.From<b.From∨a.From=b.From∧a.Zone_<b.Zone_)
theorem ltP_ok:LtOK Xb:=⟨fun a b h=>by simp only [Xb,bM,wC]at h ⊢;omega,fun a b c h1 h2=>by simp only [Xb,wC]at h1 h2 ⊢;omega⟩
theorem kK (a b:Pass):decide (kJ a b<0)=Xb a b:=by
  unfold kJ Xb EU
  rw [decide_eq_decide]
  split<;>(repeat' split)<;>omega
theorem pR (x y:Int):Bf [x,y]=some (if x≠0 then x else y):=by
  have f0:Z5 [x,y] 0=some (if x≠0 then .out (.inr x)else .go 1):=by
    by_cases h:x=0
    ·subst h;rfl
    ·have hb:(x !=0)=true:=by simp [h]
     unfold Z5
     simp [C0,h,hb]
  have f1:Z5 [x,y] 1=some (if y≠0 then .out (.inr y)else .go 2):=by
    by_cases h:y=0
    ·subst h;rfl
    ·have hb:(y !=0)=true:=by simp [h]
     unfold Z5
     simp [C0,h,hb]
  have f2:Z5 [x,y] 2=some (.out (.inl ())):=rfl
  unfold Bf
  by_cases hx:x=0
  ·by_cases hy:y=0
   ·rw [J2 (by rw [f0,bR (by simp [hx])]),J2 (by rw [f1,bR (by simp [hy])]),C5 f2]
    subst hx hy;rfl
   ·rw [J2 (by rw [f0,bR (by simp [hx])]),C5 (by rw [f1,bQ hy]),bR (by simp [hx])];rfl
  ·rw [C5 (by rw [f0,bQ hx]),bQ hx];rfl
theorem Wg (a b:Int):Af a b=some (EU a b):=by
  have h: ∀x:Int,W6 x=some false:=fun x=>by unfold W6;simp
  unfold Af EU
  rw [h,h]
  simp only [lB,bP,XH]
  split<;>(repeat' split)<;>rfl
theorem Sr (a b:Int):Y2 a b=some (EU a b):=by
  have h: ∀x:Int,Jk x=some false:=fun x=>by unfold Jk;simp
  unfold Y2 EU
  rw [h,h]
  simp only [lB,bP,XH]
  split<;>(repeat' split)<;>rfl
theorem kL (a b:Pass):Cd a b=some (kJ a b):=by
  unfold Cd kJ
  rw [Wg,lB,Sr,lB,pR];rfl
theorem WB (P T:List Pass)(x:Pass)(Q:List Pass)(hs:Srt Xb Q)(hN:(P++Q++x::T).length≤1000000):
    ∃Q',loop (D0 (P.length:Int)) (((P.length+Q.length:Nat):Int),P++Q++x::T)=some (P++Q'++T)∧Q'.Perm (x::Q)∧Srt Xb Q':=by
  have hstop: ∀xs,D0 (P.length:Int) ((P.length:Int),xs)=some (.out xs):=fun xs=>by
    unfold D0
    simp only [show decide ((P.length:Int)>(P.length:Int))=false from bK (by omega),bP,bT,lB]
  have hF: ∀(U V:List Pass) (q y:Pass),P.length≤U.length→(U++q::y::V).length=(P++Q++x::T).length→D0 (P.length:Int) (((U.length:Int)+1),U++q::y::V)=some (if Xb y q then .go ((U.length:Int),U++y::q::V)else .out (U++q::y::V)):=fun U V q y hP hl=>by
    unfold D0
    have hb:U.length+2≤1000000:=by rw [← hl]at hN;simp at hN;omega
    have e1:D6 ((U.length:Int)+1 - 1)=(U.length:Int):=by rw [F2 (by omega)];omega
    have g1:C0 (U++q::y::V) ((U.length:Int)+1)=some y:=by rw [ZY];exact Lx _ _ _ _ (by simp)
    have g2:C0 (U++q::y::V) (U.length:Int)=some q:=Lx _ _ _ _ rfl
    have s1:Lq (U++q::y::V) ((U.length:Int)+1) q=U++q::q::V:=by rw [ZY,Uw _ _ _ _ _ (by simp)];simp
    have g3:C0 (U++q::q::V) (U.length:Int)=some q:=Lx _ _ _ _ rfl
    have s2:Lq (U++q::q::V) (U.length:Int) y=U++y::q::V:=Uw _ _ _ _ _ rfl
    simp only [show decide (((U.length:Int)+1)>(P.length:Int))=true from bJ (by omega),bO,bS,e1,g1,g2,s1,g3,s2,lB,kL,kK]
    cases Xb y q<;>rfl
  obtain ⟨Q',h1,h2,h3⟩:=FZ ltP_ok (P:=P) (T:=T) (P++Q++x::T).length hstop hF x Q.length Q [] rfl (by simpa using hs) (by simp) (by simp)
  refine ⟨Q',?_,by simpa using h2,h3⟩
  rw [← h1];congr 1;simp
theorem PZ (P A S:List Pass)(hN:(P++A++S).length≤1000000):
    ∃A',D3 (P++A++S) (P.length:Int) ((P.length+A.length:Nat):Int)=some (P++A'++S)∧A'.Perm A∧Srt Xb A':=by
  unfold D3
  have hend: ∀(xs:List Pass) (i:Nat),P.length+A.length≤i→D7 (P.length:Int) ((P.length+A.length:Nat):Int) ((i:Int),xs)=some (.out xs):=fun xs i hi=>by
    unfold D7
    rw [show decide ((i:Int)< ((P.length+A.length:Nat):Int))=false from bK (by omega)];rfl
  simp only [lM]at hN
  have hw:D6 ((P.length:Int)+1)=((P.length+1:Nat):Int):=by rw [F2 (by omega)];omega
  cases A with
  |nil=>
   refine ⟨[],?_,by simp,List.Pairwise.nil⟩
   rw [hw,C5 (hend _ _ (by simp))]
  |cons a A=>
   have hF: ∀(Q R:List Pass) (x:Pass),(P++Q++x::R++S).length=(P++a::A++S).length→P.length+Q.length<P.length+ (a::A).length→Srt Xb Q→∃Q',D7 (P.length:Int) ((P.length+ (a::A).length:Nat):Int) (((P.length+Q.length:Nat):Int),P++Q++x::R++S)=some (.go (((P.length+Q.length+1:Nat):Int),P++Q'++R++S))∧Q'.Perm (x::Q)∧Srt Xb Q':=fun Q R x hl hb hs=>by
     obtain ⟨Q',k1,k2,k3⟩:=WB P (R++S) x Q hs (by simp only [lM,lL]at hl hN ⊢;omega)
     refine ⟨Q',?_,k2,k3⟩
     unfold D7
     have e1:P++Q++x::R++S=P++Q++x::(R++S):=by simp
     rw [show decide (((P.length+Q.length:Nat):Int)< ((P.length+ (a::A).length:Nat):Int))=true from bJ (by omega),bO]
     simp only [e1,k1,lB]
     rw [F2 (by simp only [lL]at hN hb;omega)]
     simp
   obtain ⟨A',h1,h2,h3⟩:=NP (lt:=Xb) (P:=P) (S:=S) (P++a::A++S).length (P.length+ (a::A).length) hend hF A [a] (by simp) (by simp;omega) (List.pairwise_singleton _ _)
   refine ⟨A',?_,h2,h3⟩
   rw [hw,← h1];congr 1;simp
theorem kM (x y:Nat)(h:x+y≤4000000):D6 ((IntKind.wrap .u64 (D6 ((x:Int)+ (y:Int)))).fdiv (2^ (min (1:Int).toNat (IntKind.bits .u64))))=(((x+y) / 2:Nat):Int):=by
  rw [F2 (n:=(x:Int)+ (y:Int)) (by omega)]
  have e:IntKind.wrap .u64 ((x:Int)+ (y:Int))=(x:Int)+ (y:Int):=by
    unfold IntKind.wrap
    simp only [IntKind.signed,IntKind.bits,bT,Bool.false_eq_true,if_false]
    omega
  rw [e,show (2:Int)^ (min (1:Int).toNat (IntKind.bits .u64))=2 from rfl,Int.fdiv_eq_ediv_of_nonneg _ (by omega),F2 (by omega)]
  omega
def BlkS (w:Nat)(l:List Pass):Prop:= ∀i,Srt Xb ((l.drop (i*w)).take w)
theorem BlkS.cons {w:Nat}{M R:List Pass}(hM:M.length=w)(h1:Srt Xb M)(h2:BlkS w R):BlkS w (M++R):=by
  intro i
  cases i with
  |zero=>rw [Nat.zero_mul,List.drop_zero,List.take_append_of_le_length (by omega),List.take_of_length_le (by omega)];exact h1
  |succ i=>
   have:=h2 i
   rw [wJ,Nat.one_mul,List.drop_append,List.drop_eq_nil_of_le (by omega),lQ,show i*w+w - M.length=i*w by omega]
   exact this
theorem BlkS.last {w:Nat}{M:List Pass}(hM:M.length≤w)(h1:Srt Xb M):BlkS w M:=by
  intro i
  exact h1.sublist ((List.take_sublist _ _).trans (List.drop_sublist _ _))
theorem BlkS.drop {w:Nat}{R:List Pass}(h:BlkS w R):BlkS w (R.drop w):=by
  intro i
  have:=h (i+1)
  rwa [wJ,Nat.one_mul,Nat.add_comm,← List.drop_drop]at this
theorem BlkS.head {w:Nat}{R:List Pass}(h:BlkS w R):Srt Xb (R.take w):=by
  have:=h 0
  rwa [Nat.zero_mul,List.drop_zero]at this
theorem pS (n:Nat)(hn:n≤100): ∀(k:Nat) (R D:List Pass),R.length≤k→D.length+R.length=n→
    ∃y R',loop (E0 (n:Int)) ((D.length:Int),((D.length+20:Nat):Int),D++R)=some y∧D3 y.2 y.1 (n:Int)=some (D++R')∧BlkS 20 R'∧R'.Perm R:=by
  intro k
  induction k with
  |zero=>
   intro R D hk hl
   obtain rfl:=List.length_eq_zero_iff.1 (show R.length=0 by omega)
   obtain ⟨A',g1,g2,g3⟩:=PZ D [] [] (by simp;omega)
   simp only [lP,lN,Nat.add_zero]at g1 hl ⊢
   refine ⟨_,A',C5 (t:=((D.length:Int),D)) ?_,by rw [← hl];exact g1, .last (by rw [g2.length_eq];simp) g3,g2⟩
   unfold E0
   rw [show decide (((D.length+20:Nat):Int)≤(n:Int))=false from bK (by omega)];rfl
  |succ k ih=>
   intro R D hk hl
   by_cases h20:20≤R.length
   ·have eR:=List.take_append_drop 20 R
    have l1:(R.take 20).length=20:=by rw [lV];omega
    obtain ⟨A',g1,g2,g3⟩:=PZ D (R.take 20) (R.drop 20) (by rw [lO,eR];simp;omega)
    have lA:A'.length=20:=by rw [g2.length_eq];exact l1
    rw [l1,lO,eR]at g1
    obtain ⟨y,R',k1,k2,k3,k4⟩:=ih (R.drop 20) (D++A') (by rw [List.length_drop];omega) (by rw [lM,List.length_drop];omega)
    refine ⟨y,A'++R',?_,by rw [k2,lO], .cons lA g3 k3,?_⟩
    ·rw [← k1,show (D++A').length=D.length+20 by rw [lM,lA]]
     refine J2 ?_
     unfold E0
     simp only [show decide (((D.length+20:Nat):Int)≤(n:Int))=true from bJ (by omega),bO,g1,lB]
     rw [F2 (n:=((D.length+20:Nat):Int)+20) (by omega)]
     simp
    ·exact (g2.append k4).trans (by rw [eR])
   ·obtain ⟨A',g1,g2,g3⟩:=PZ D R [] (by simp;omega)
    simp only [lP]at g1
    rw [hl]at g1
    refine ⟨_,A',C5 (t:=((D.length:Int),D++R)) ?_,g1, .last (by rw [g2.length_eq];omega) g3,g2⟩
    unfold E0
    rw [show decide (((D.length+20:Nat):Int)≤(n:Int))=false from bK (by omega)];rfl
theorem aB (xs:List Pass)(h:xs.length≤19): ∃ys,F9 xs=some ys∧ys.Perm xs∧Srt Xb ys:=by
  obtain ⟨y,R,k1,k2,k3,k4⟩:=pS xs.length (by omega) xs.length xs [] (wH _) (by simp)
  refine ⟨R,?_,k4,?_⟩
  ·unfold F9 J7
   have k1':loop (E0 (xs.length:Int)) (0,20,xs)=some y:=k1
   have k2':D3 y.2 y.1 (xs.length:Int)=some R:=k2
   have g1':loop (G9 (xs.length:Int) R) 20=some R:=by
     refine C5 ?_
     unfold G9
     rw [show decide ((20:Int)< (xs.length:Int))=false from bK (by omega)];rfl
   simp only [k1',lB,k2',g1']
  ·have:=k3.head
   rwa [List.take_of_length_le (by rw [k4.length_eq];omega)]at this
theorem CP:G0=some ():=by
  have i0:E7 0 0=some ():=by
    unfold E7
    exact C5 rfl
  have h1:loop (I6 0) (0,20)=some 0:=C5 rfl
  have h2:loop (I5 0) 20=some ():=C5 rfl
  unfold G0 J8
  simp only [h1,lB,i0,h2]
end Go.Abs.World
