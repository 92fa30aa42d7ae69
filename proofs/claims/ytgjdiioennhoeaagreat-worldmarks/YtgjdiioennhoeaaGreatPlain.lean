/-
  Plain facts on the functions: what they compute, and that the law holds of it.
-/
import Derived.Test.YtgjdiioennhoeaaGreatFns3
set_option maxRecDepth 100000
set_option linter.unusedVariables false
namespace Go.Abs.World
open Go Go.Abs
def B18 (p4:(List Int))(x1:(Int× (List Spot))):Option (Stp (Int× (List Spot)) (List Spot)):=
  cond (decide ((w64 (x1.1+1))< (p4.length:Int))) ((G3 p4 x1.1).bind fun v1=>(G3 p4 (w64 (x1.1+1))).bind fun v2=>(A9r x1.2 [(Spot.mk v1 v2)]).bind fun v3=>some (.go ((w64 (x1.1+2)),v3))) (some (.out x1.2))
instance kit_road_l1_le (p4:(List Int))(x1:(Int× (List Spot))):Le (B18 p4 x1) (A7h p4 x1):=by unfold B18 A7h;infer_instance
def B3i (p1:Int)(p2:Int)(p3:(List Int))(p4:(List Int)):Option Lane:=
  (R0 (B18 p4) (0,[])).bind fun y1=>cond (p1==3) (some (Lane.mk p1 (Curve.mk y1) 500 p2 p3)) (some (Lane.mk p1 (Curve.mk y1) 1500 p2 p3))
instance kit_road_le (p1:Int)(p2:Int)(p3:(List Int))(p4:(List Int)):Le (B3i p1 p2 p3 p4) (B1k p1 p2 p3 p4):=by unfold B3i B1k;infer_instance
def B3y:Option Map:=
  (B3i 1 1500 [] [0,0,100000,0]).bind fun v1=>(B3i 1 1500 [] [50000,(-50000),50000,50000]).bind fun v2=>some (Map.mk 0 [v1,v2] [(Zone.mk [(Part.mk 0 48000 52000 1),(Part.mk 1 48000 52000 0)] 0)] [] [])
instance kit_Cross_le:Le (B3y) (B0z):=by unfold B3y B0z;infer_instance
def A8g (p1:Int)(p2:Int)(p3:Int):Option Agent:=
  some (Agent.mk [p1] p2 p3 4000 0 false false)
instance law04_agent_le (p1:Int)(p2:Int)(p3:Int):Le (A8g p1 p2 p3) (A5d p1 p2 p3):=by unfold A8g A5d;infer_instance
def X6 (p1:List Stay):Option (List Stay):=A9r [] p1
instance slices_Clone_Stay_Stay_le (p1:List Stay):Le (X6 p1) (R9 p1):=by unfold X6 R9;infer_instance
def A2k (p1:List Int):Option (List Int):=A9r [] p1
instance slices_Clone_int_int_le (p1:List Int):Le (A2k p1) (A0k p1):=by unfold A2k A0k;infer_instance
def A2l (p1:Agent):Option Agent:=
  (A2k p1.Route).bind fun v1=>some (Agent.mk v1 p1.S p1.V p1.Len p1.Begin p1.Obey p1.Gone)
instance world_ownAgent_le (p1:Agent):Le (A2l p1) (A0f p1):=by unfold A2l A0f;infer_instance
def A8p (p1:State)(x1:(Int×State)):Option (Stp (Int×State) State):=
  cond (decide (x1.1< (p1.Agents.length:Int))) ((G3 p1.Agents x1.1).bind fun v2=>(A2l v2).bind fun v3=>(A9r x1.2.Agents [v3]).bind fun v4=>some (.go ((w64 (x1.1+1)),(State.mk x1.2.Tick v4 x1.2.In)))) (some (.out x1.2))
instance world_Copy_l1_le (p1:State)(x1:(Int×State)):Le (A8p p1 x1) (A4j p1 x1):=by unfold A8p A4j;infer_instance
def B04 (p1:State):Option State:=
  (X6 p1.In).bind fun v1=>(R0 (A8p p1) (0,(State.mk p1.Tick [] v1))).bind fun y1=>some y1
instance world_Copy_le (p1:State):Le (B04 p1) (A6z p1):=by unfold B04 A6z;infer_instance
def A0d (p1:Int)(p2:Int)(p3:Int):Option Bool:=
  some ((decide (p2≤p1))&& (decide (p1≤p3)))
instance roads_within_le (p1:Int)(p2:Int)(p3:Int):Le (A0d p1 p2 p3) (X7 p1 p2 p3):=by unfold A0d X7;infer_instance
def A37 (p1:RoadsCheck):Option Int:=
  (A0d p1.Map_.Version 0 1099511627776).bind fun v1=>cond (!v1) (some 2) (cond ((p1.Map_.Lanes.length:Int)==0) (some 6) (cond ((((decide ((p1.Map_.Lanes.length:Int)>12))||(decide ((p1.Map_.Zones.length:Int)>12)))||(decide ((p1.Map_.Signals.length:Int)>4)))||(decide ((p1.Map_.Works.length:Int)>8))) (some 8) (some 0)))
instance roads_check_numbers_le (p1:RoadsCheck):Le (A37 p1) (Y6 p1):=by unfold A37 Y6;infer_instance
def A30 (p1:Int):Option (Int×Int×Int):=
  cond ((decide (p1<0))||(decide (p1≥4))) (some (0,0,0)) ((G3 ([(0,0,0),(2000,30,90),(1000,20,60),(300,100,300)]:List (Int×Int×Int)) p1).bind fun v1=>some (v1.1,v1.2.1,v1.2.2))
instance roads_Bounds_le (p1:Int):Le (A30 p1) (A17 p1):=by unfold A30 A17;infer_instance
def A8q (p1:(List Spot))(x1:Int):Option (Stp Int (Sum Unit Bool)):=
  cond (decide (x1< (p1.length:Int))) ((G3 p1 x1).bind fun v1=>cond ((decide ((mm2 false v1.X v1.Y)< (-16777216)))||(decide ((mm2 true v1.X v1.Y)>16777216))) (some (.out (.inr false))) (some (.go (w64 (x1+1))))) (some (.out (.inl ())))
instance curve_fair_l1_le (p1:(List Spot))(x1:Int):Le (A8q p1 x1) (A4l p1 x1):=by unfold A8q A4l;infer_instance
def B2j (p1:(List Spot)):Option Bool:=
  thenS (R0 (A8q p1) 0) (fun _=>some true) (fun r=>some r)
instance curve_fair_le (p1:(List Spot)):Le (B2j p1) (A9f p1):=by unfold B2j A9f;infer_instance
def B05 (p1:Spot)(p2:Spot):Option CurveVector:=
  some (CurveVector.mk (w64 (p2.X - p1.X)) (w64 (p2.Y - p1.Y)))
instance curve_from_le (p1:Spot)(p2:Spot):Le (B05 p1 p2) (A70 p1 p2):=by unfold B05 A70;infer_instance
def A10 (p1:CurveVector)(p2:CurveVector):Option Int:=
  some (w64 ((w64 (p1.x*p2.x))+ (w64 (p1.y*p2.y))))
instance curve_vector_dot_le (p1:CurveVector)(p2:CurveVector):Le (A10 p1 p2) (W7 p1 p2):=by unfold A10 W7;infer_instance
def A8r (p1:Int)(x1:(Int×Int)):Option (Stp (Int×Int) Int):=
  cond (decide (x1.1<x1.2)) (cond (decide ((w64 ((w64 ((w64 (x1.1+x1.2)).tdiv 2))* (w64 ((w64 (x1.1+x1.2)).tdiv 2))))<p1)) (some (.go ((w64 ((w64 ((w64 (x1.1+x1.2)).tdiv 2))+1)),x1.2))) (some (.go (x1.1,(w64 ((w64 (x1.1+x1.2)).tdiv 2)))))) (some (.out x1.1))
instance curve_root_l1_le (p1:Int)(x1:(Int×Int)):Le (A8r p1 x1) (A4m p1 x1):=by unfold A8r A4m;infer_instance
def B06 (p1:Int):Option (Int×Bool):=
  (R0 (A8r p1) (0,67108864)).bind fun y1=>some (y1,((w64 (y1*y1))==p1))
instance curve_root_le (p1:Int):Le (B06 p1) (A71 p1):=by unfold B06 A71;infer_instance
def A7u (p1:Curve)(x1:(Int×CurveVector)):Option (Stp (Int×CurveVector) (Sum Unit Int)):=
  cond (decide (x1.1< (w64 ((p1.Pts.length:Int) - 1)))) ((G3 p1.Pts x1.1).bind fun v2=>(G3 p1.Pts (w64 (x1.1+1))).bind fun v3=>(B05 v2 v3).bind fun v4=>(A10 v4 v4).bind fun v5=>(B06 v5).bind fun v6=>cond (!v6.2) (some (.out (.inr 3))) (cond ((decide (v6.1<1000))||(decide (v6.1>1048576))) (some (.out (.inr 2))) (((cond (decide (x1.1>0)) (A10 x1.2 v4) (some default))).bind fun v7=>cond ((decide (x1.1>0))&& (decide (v7≤0))) (some (.out (.inr 12))) (some (.go ((w64 (x1.1+1)),v4)))))) (some (.out (.inl ())))
instance curve_Check_l1_le (p1:Curve)(x1:(Int×CurveVector)):Le (A7u p1 x1) (A3f p1 x1):=by unfold A7u A3f;repeat' first|infer_instance|with_reducible refine Le.bind (h:= ?_) (hf:=fun _=> ?_)|with_reducible refine Le.cond (h:= ?_) (h':= ?_)|with_reducible refine Le.thenS (h:= ?_) (hf:=fun _=> ?_) (hg:=fun _=> ?_)
def A8h (p1:Curve):Option Int:=
  cond (decide ((p1.Pts.length:Int)<2)) (some 6) (cond (decide ((p1.Pts.length:Int)>16)) (some 5) ((B2j p1.Pts).bind fun v1=>cond (!v1) (some 2) (thenS (R0 (A7u p1) (0,(CurveVector.mk 0 0))) (fun _=>some 0) (fun r=>some r))))
instance curve_Check_le (p1:Curve):Le (A8h p1) (A5f p1):=by unfold A8h A5f;infer_instance
def A6e (p1:(List Int))(p3:Int)(x1:(Int×Int)):Option (Stp (Int×Int) (Sum Unit Bool)):=
  cond (decide (x1.2< (p1.length:Int))) ((G3 p1 x1.2).bind fun v1=>cond ((decide (v1<x1.1))||(decide (v1≥p3))) (some (.out (.inr false))) (some (.go ((w64 (v1+1)),(w64 (x1.2+1)))))) (some (.out (.inl ())))
instance roads_rising_l1_le (p1:(List Int))(p3:Int)(x1:(Int×Int)):Le (A6e p1 p3 x1) (A26 p1 p3 x1):=by unfold A6e A26;infer_instance
def A4z (p1:(List Int))(p2:Int)(p3:Int):Option Bool:=
  thenS (R0 (A6e p1 p3) (p2,0)) (fun _=>some true) (fun r=>some r)
instance roads_rising_le (p1:(List Int))(p2:Int)(p3:Int):Le (A4z p1 p2 p3) (A27 p1 p2 p3):=by unfold A4z A27;infer_instance
def A2m (p1:RoadsCheck)(x1:Int):Option (Stp Int (Sum Unit Int)):=
  cond (decide (x1< (p1.Map_.Lanes.length:Int))) ((G3 p1.Map_.Lanes x1).bind fun v1=>(A30 v1.Kind).bind fun v2=>cond (v2.1==0) (some (.out (.inr 4))) ((A8h v1.Curve_).bind fun v3=>cond (v3 !=0) (some (.out (.inr v3))) ((A0d v1.Half 200 4000).bind fun v4=>((cond (!(!v4)) (A0d v1.Limit 1 v2.1) (some default))).bind fun v5=>cond ((!v4)||(!v5)) (some (.out (.inr 2))) (cond (decide ((v1.Next.length:Int)>3)) (some (.out (.inr 8))) ((A4z v1.Next (w64 (x1+1)) (p1.Map_.Lanes.length:Int)).bind fun v6=>cond (!v6) (some (.out (.inr 11))) (some (.go (w64 (x1+1))))))))) (some (.out (.inl ())))
instance roads_check_lanes_l1_le (p1:RoadsCheck)(x1:Int):Le (A2m p1 x1) (W8 p1 x1):=by unfold A2m W8;repeat' first|infer_instance|with_reducible refine Le.bind (h:= ?_) (hf:=fun _=> ?_)|with_reducible refine Le.cond (h:= ?_) (h':= ?_)|with_reducible refine Le.thenS (h:= ?_) (hf:=fun _=> ?_) (hg:=fun _=> ?_)
def A50 (p1:RoadsCheck):Option Int:=
  thenS (R0 (A2m p1) 0) (fun _=>some 0) (fun r=>some r)
instance roads_check_lanes_le (p1:RoadsCheck):Le (A50 p1) (A0u p1):=by unfold A50 A0u;infer_instance
def A1q (p1:RoadsCheck)(v1:Lane)(v2:Spot)(x2:Int):Option (Stp Int (Sum Unit Int)):=
  cond (decide (x2< (v1.Next.length:Int))) ((G3 v1.Next x2).bind fun v3=>(G3 p1.Map_.Lanes v3).bind fun v4=>cond (v4.Kind !=v1.Kind) (some (.out (.inr 4))) ((G3 p1.Map_.Lanes v3).bind fun v5=>(G3 v5.Curve_.Pts 0).bind fun v6=>cond (!(v6.X==v2.X&& (v6.Y==v2.Y&&true))) (some (.out (.inr 3))) (some (.go (w64 (x2+1)))))) (some (.out (.inl ())))
instance roads_check_joints_l2_le (p1:RoadsCheck)(v1:Lane)(v2:Spot)(x2:Int):Le (A1q p1 v1 v2 x2) (V2 p1 v1 v2 x2):=by unfold A1q V2;repeat' first|infer_instance|with_reducible refine Le.bind (h:= ?_) (hf:=fun _=> ?_)|with_reducible refine Le.cond (h:= ?_) (h':= ?_)|with_reducible refine Le.thenS (h:= ?_) (hf:=fun _=> ?_) (hg:=fun _=> ?_)
def A1r (p1:RoadsCheck)(x1:Int):Option (Stp Int (Sum Unit Int)):=
  cond (decide (x1< (p1.Map_.Lanes.length:Int))) ((G3 p1.Map_.Lanes x1).bind fun v1=>(G3 v1.Curve_.Pts (w64 ((v1.Curve_.Pts.length:Int) - 1))).bind fun v2=>thenS (R0 (A1q p1 v1 v2) 0) (fun _=>some (.go (w64 (x1+1)))) (fun r=>some (.out (.inr r)))) (some (.out (.inl ())))
instance roads_check_joints_l1_le (p1:RoadsCheck)(x1:Int):Le (A1r p1 x1) (V3 p1 x1):=by unfold A1r V3;infer_instance
def A43 (p1:RoadsCheck):Option Int:=
  thenS (R0 (A1r p1) 0) (fun _=>some 0) (fun r=>some r)
instance roads_check_joints_le (p1:RoadsCheck):Le (A43 p1) (A0b p1):=by unfold A43 A0b;infer_instance
def A1s (p1:Phase):Option Bool:=
  (A0d p1.Ticks 1 10000).bind fun v1=>some (!v1)
instance roads_check_signals_1_le (p1:Phase):Le (A1s p1) (V4 p1):=by unfold A1s V4;infer_instance
def K1 (p1:(List Phase))(x1:Int):Option (Stp Int (Sum Unit Int)):=
  cond (decide (x1< (p1.length:Int))) ((G3 p1 x1).bind fun v1=>(A1s v1).bind fun v2=>cond v2 (some (.out (.inr x1))) (some (.go (w64 (x1+1))))) (some (.out (.inl ())))
instance slices_IndexFunc_Phase_Phase_roads_check_signals_1_l1_le (p1:(List Phase))(x1:Int):Le (K1 p1 x1) (D0 p1 x1):=by unfold K1 D0;infer_instance
def L7 (p1:(List Phase)):Option Int:=
  thenS (R0 (K1 p1) 0) (fun _=>some (-1)) (fun r=>some r)
instance slices_IndexFunc_Phase_Phase_roads_check_signals_1_le (p1:(List Phase)):Le (L7 p1) (E1 p1):=by unfold L7 E1;infer_instance
def K2 (p1:(List Phase)):Option Bool:=
  (L7 p1).bind fun v1=>some (decide (v1≥0))
instance slices_ContainsFunc_Phase_Phase_roads_check_signals_1_le (p1:(List Phase)):Le (K2 p1) (D1 p1):=by unfold K2 D1;infer_instance
def A11 (p1:Phase)(p2:RoadsCheck):Option Bool:=
  (A4z p1.Green 0 (p2.Map_.Lanes.length:Int)).bind fun v1=>some (!v1)
instance roads_check_signals_2_b_le (p1:Phase)(p2:RoadsCheck):Le (A11 p1 p2) (T8 p1 p2):=by unfold A11 T8;infer_instance
def J9 (p1:(List Phase))(p2:RoadsCheck)(x1:Int):Option (Stp Int (Sum Unit Int)):=
  cond (decide (x1< (p1.length:Int))) ((G3 p1 x1).bind fun v1=>(A11 v1 p2).bind fun v2=>cond v2 (some (.out (.inr x1))) (some (.go (w64 (x1+1))))) (some (.out (.inl ())))
instance slices_IndexFunc_Phase_Phase_roads_check_signals_2b_l1_le (p1:(List Phase))(p2:RoadsCheck)(x1:Int):Le (J9 p1 p2 x1) (C5 p1 p2 x1):=by unfold J9 C5;infer_instance
def L3 (p1:(List Phase))(p2:RoadsCheck):Option Int:=
  thenS (R0 (J9 p1 p2) 0) (fun _=>some (-1)) (fun r=>some r)
instance slices_IndexFunc_Phase_Phase_roads_check_signals_2b_le (p1:(List Phase))(p2:RoadsCheck):Le (L3 p1 p2) (D9 p1 p2):=by unfold L3 D9;infer_instance
def K0 (p1:(List Phase))(p2:RoadsCheck):Option Bool:=
  (L3 p1 p2).bind fun v1=>some (decide (v1≥0))
instance slices_ContainsFunc_Phase_Phase_roads_check_signals_2b_le (p1:(List Phase))(p2:RoadsCheck):Le (K0 p1 p2) (C6 p1 p2):=by unfold K0 C6;infer_instance
def A1e (p1:RoadsCheck)(x1:Int):Option (Stp Int (Sum Unit Int)):=
  cond (decide (x1< (p1.Map_.Signals.length:Int))) ((G3 p1.Map_.Signals x1).bind fun v1=>cond ((v1.Phases.length:Int)==0) (some (.out (.inr 6))) (cond (decide ((v1.Phases.length:Int)>6)) (some (.out (.inr 8))) ((A0d v1.Offset 0 1099511627776).bind fun v2=>cond (!v2) (some (.out (.inr 2))) ((K2 v1.Phases).bind fun v3=>cond v3 (some (.out (.inr 2))) ((K0 v1.Phases p1).bind fun v4=>cond v4 (some (.out (.inr 11))) (some (.go (w64 (x1+1))))))))) (some (.out (.inl ())))
instance roads_check_signals_l1_le (p1:RoadsCheck)(x1:Int):Le (A1e p1 x1) (U5 p1 x1):=by unfold A1e U5;repeat' first|infer_instance|with_reducible refine Le.bind (h:= ?_) (hf:=fun _=> ?_)|with_reducible refine Le.cond (h:= ?_) (h':= ?_)|with_reducible refine Le.thenS (h:= ?_) (hf:=fun _=> ?_) (hg:=fun _=> ?_)
def A38 (p1:RoadsCheck):Option Int:=
  thenS (R0 (A1e p1) 0) (fun _=>some 0) (fun r=>some r)
instance roads_check_signals_le (p1:RoadsCheck):Le (A38 p1) (Y7 p1):=by unfold A38 Y7;infer_instance
def B3j (pts:List Spot):Nat→Nat→Int→Option (List (Int×CurvePiece))
  |0,_,_=>some []
  |n+1,i,start=>(pts[i]?).bind fun p=>(pts[i+1]?).bind fun q=>(B05 p q).bind fun v=>(A10 v v).bind fun d=>(B06 d).bind fun r=>
   (B3j pts n (i+1) (w64 (start+r.1))).bind fun l=>some (((i:Int),CurvePiece.mk p v r.1 start)::l)
instance piecesGo_le (pts:List Spot): ∀(n i:Nat) (s:Int),Le (B3j pts n i s) (A6q pts n i s)
  |0,i,s=>Le.refl _
  |n+1,i,s=>by
   rw [A6q,B3j]
   have:=fun i s=>piecesGo_le pts n i s
   infer_instance
def B7v (pts:List Spot):Option (List (Int×CurvePiece)):=if pts.length≤1000000 then B3j pts (pts.length - 1) 0 0 else none
instance piecesC_le (pts:List Spot):Le (B7v pts) (B5t pts):=by unfold B7v B5t;infer_instance
def A6f (x1:(List Int))(a1:(Int×CurvePiece)):Option (Stp (List Int) (List Int)):=
  (A9r x1 [a1.2.l]).bind fun v3=>some (.go v3)
instance curve_Pieces_l1_le (x1:(List Int))(a1:(Int×CurvePiece)):Le (A6f x1 a1) (A28 x1 a1):=by unfold A6f A28;infer_instance
def B07 (p1:Curve):Option (List Int):=
  (A8h p1).bind fun v1=>cond (v1 !=0) (some []) (((B7v p1.Pts).bind fun v2=>loopL (A6f) (fun (x1:(List Int))=>x1) v2 []).bind fun y1=>some y1)
instance curve_Pieces_le (p1:Curve):Le (B07 p1) (A5x p1):=by unfold B07 A5x;infer_instance
def A6g (v1:(List Int))(x1:(Int×Int)):Option (Stp (Int×Int) Int):=
  cond (decide (x1.2< (v1.length:Int))) ((G3 v1 x1.2).bind fun v2=>some (.go ((w64 (x1.1+v2)),(w64 (x1.2+1))))) (some (.out x1.1))
instance curve_Length_l1_le (v1:(List Int))(x1:(Int×Int)):Le (A6g v1 x1) (A29 v1 x1):=by unfold A6g A29;infer_instance
def B08 (p1:Curve):Option Int:=
  (B07 p1).bind fun v1=>(R0 (A6g v1) (0,0)).bind fun y1=>some y1
instance curve_Length_le (p1:Curve):Le (B08 p1) (A5y p1):=by unfold B08 A5y;infer_instance
def A5k (p1:Map)(p2:Int):Option Int:=
  (G3 p1.Lanes p2).bind fun v1=>(B08 v1.Curve_).bind fun v2=>some v2
instance roads_long_le (p1:Map)(p2:Int):Le (A5k p1 p2) (A48 p1 p2):=by unfold A5k A48;infer_instance
def A2n (p1:RoadsCheck)(v1:Zone)(x3:Int):Option (Stp Int (Sum Unit Int)):=
  cond (decide (x3< (v1.Parts.length:Int))) ((G3 v1.Parts x3).bind fun v5=>((cond (!((decide (v5.From<0))||(decide (v5.From≥v5.To)))) (A5k p1.Map_ v5.Lane_) (some default))).bind fun v6=>cond (((((decide (v5.From<0))||(decide (v5.From≥v5.To)))||(decide (v5.To>v6)))||(decide (v5.Rank<0)))||(decide (v5.Rank>100))) (some (.out (.inr 2))) (some (.go (w64 (x3+1))))) (some (.out (.inl ())))
instance roads_check_zones_l3_le (p1:RoadsCheck)(v1:Zone)(x3:Int):Le (A2n p1 v1 x3) (X0 p1 v1 x3):=by unfold A2n X0;repeat' first|infer_instance|with_reducible refine Le.bind (h:= ?_) (hf:=fun _=> ?_)|with_reducible refine Le.cond (h:= ?_) (h':= ?_)|with_reducible refine Le.thenS (h:= ?_) (hf:=fun _=> ?_) (hg:=fun _=> ?_)
def A2o (v1:Zone)(x2:((List Int)×Int)):Option (Stp ((List Int)×Int) (List Int)):=
  cond (decide (x2.2< (v1.Parts.length:Int))) ((G3 v1.Parts x2.2).bind fun v2=>(A9r x2.1 [v2.Lane_]).bind fun v3=>some (.go (v3,(w64 (x2.2+1))))) (some (.out x2.1))
instance roads_check_zones_l2_le (v1:Zone)(x2:((List Int)×Int)):Le (A2o v1 x2) (X1 v1 x2):=by unfold A2o X1;infer_instance
def A2p (p1:RoadsCheck)(x1:Int):Option (Stp Int (Sum Unit Int)):=
  cond (decide (x1< (p1.Map_.Zones.length:Int))) ((G3 p1.Map_.Zones x1).bind fun v1=>cond (decide ((v1.Parts.length:Int)<2)) (some (.out (.inr 6))) (cond (decide ((v1.Parts.length:Int)>6)) (some (.out (.inr 8))) (cond ((decide (v1.Signal_<0))||(decide (v1.Signal_>(p1.Map_.Signals.length:Int)))) (some (.out (.inr 2))) ((R0 (A2o v1) ([],0)).bind fun y2=>(A4z y2 0 (p1.Map_.Lanes.length:Int)).bind fun v4=>cond (!v4) (some (.out (.inr 11))) (thenS (R0 (A2n p1 v1) 0) (fun _=>some (.go (w64 (x1+1)))) (fun r=>some (.out (.inr r)))))))) (some (.out (.inl ())))
instance roads_check_zones_l1_le (p1:RoadsCheck)(x1:Int):Le (A2p p1 x1) (X2 p1 x1):=by unfold A2p X2;repeat' first|infer_instance|with_reducible refine Le.bind (h:= ?_) (hf:=fun _=> ?_)|with_reducible refine Le.cond (h:= ?_) (h':= ?_)|with_reducible refine Le.thenS (h:= ?_) (hf:=fun _=> ?_) (hg:=fun _=> ?_)
def A51 (p1:RoadsCheck):Option Int:=
  thenS (R0 (A2p p1) 0) (fun _=>some 0) (fun r=>some r)
instance roads_check_zones_le (p1:RoadsCheck):Le (A51 p1) (A0v p1):=by unfold A51 A0v;infer_instance
def A2q (p1:RoadsCheck)(x1:Int):Option (Stp Int (Sum Unit Int)):=
  cond (decide (x1< (p1.Map_.Works.length:Int))) ((G3 p1.Map_.Works x1).bind fun v1=>cond ((decide (v1.Lane_<0))||(decide (v1.Lane_≥(p1.Map_.Lanes.length:Int)))) (some (.out (.inr 7))) ((G3 p1.Map_.Lanes v1.Lane_).bind fun v2=>(A30 v2.Kind).bind fun v3=>((cond (!((decide (v1.From<0))||(decide (v1.From>v1.To)))) (A5k p1.Map_ v1.Lane_) (some default))).bind fun v4=>((cond (!((((((decide (v1.From<0))||(decide (v1.From>v1.To)))||(decide (v1.To>v4)))||(decide (v1.Begin<0)))||(decide (v1.Begin≥v1.End)))||(decide (v1.End>1099511627776)))) (A0d v1.Limit 0 v3.1) (some default))).bind fun v5=>cond (((((((decide (v1.From<0))||(decide (v1.From>v1.To)))||(decide (v1.To>v4)))||(decide (v1.Begin<0)))||(decide (v1.Begin≥v1.End)))||(decide (v1.End>1099511627776)))||(!v5)) (some (.out (.inr 2))) (some (.go (w64 (x1+1)))))) (some (.out (.inl ())))
instance roads_check_works_l1_le (p1:RoadsCheck)(x1:Int):Le (A2q p1 x1) (X3 p1 x1):=by unfold A2q X3;repeat' first|infer_instance|with_reducible refine Le.bind (h:= ?_) (hf:=fun _=> ?_)|with_reducible refine Le.cond (h:= ?_) (h':= ?_)|with_reducible refine Le.thenS (h:= ?_) (hf:=fun _=> ?_) (hg:=fun _=> ?_)
def A52 (p1:RoadsCheck):Option Int:=
  thenS (R0 (A2q p1) 0) (fun _=>some 0) (fun r=>some r)
instance roads_check_works_le (p1:RoadsCheck):Le (A52 p1) (A0w p1):=by unfold A52 A0w;infer_instance
def Z3 (v:Nat)(p1:RoadsCheck):Option Int:=
  cond (Nat.beq v 148) (A37 p1) (cond (Nat.beq v 149) (A50 p1) (cond (Nat.beq v 150) (A43 p1) (cond (Nat.beq v 151) (A38 p1) (cond (Nat.beq v 152) (A51 p1) (cond (Nat.beq v 153) (A52 p1) (none))))))
instance choose_roads_check_numbers_le (v:Nat)(p1:RoadsCheck):Le (Z3 v p1) (R5 v p1):=by unfold Z3 R5;infer_instance
def A7v (p1:Map)(x1:Int):Option (Stp Int (Sum Unit Int)):=
  cond (decide (x1< ([148,149,150,151,152,153].length:Int))) ((G3 [148,149,150,151,152,153] x1).bind fun v1=>(Z3 v1 (RoadsCheck.mk p1)).bind fun v2=>cond (v2 !=0) (some (.out (.inr v2))) (some (.go (w64 (x1+1))))) (some (.out (.inl ())))
instance roads_Check_l1_le (p1:Map)(x1:Int):Le (A7v p1 x1) (A3g p1 x1):=by unfold A7v A3g;infer_instance
def A66 (p1:Map):Option Int:=
  thenS (R0 (A7v p1) 0) (fun _=>some 0) (fun r=>some r)
instance roads_Check_le (p1:Map):Le (A66 p1) (A3y p1):=by unfold A66 A3y;infer_instance
def A12 (p1:(List Int))(p2:Int)(x1:Int):Option (Stp Int (Sum Unit Int)):=
  cond (decide (x1< (p1.length:Int))) ((G3 p1 x1).bind fun v1=>cond (p2==v1) (some (.out (.inr x1))) (some (.go (w64 (x1+1))))) (some (.out (.inl ())))
instance slices_Index_int_int_l1_le (p1:(List Int))(p2:Int)(x1:Int):Le (A12 p1 p2 x1) (T9 p1 p2 x1):=by unfold A12 T9;infer_instance
def A0e (p1:(List Int))(p2:Int):Option Int:=
  thenS (R0 (A12 p1 p2) 0) (fun _=>some (-1)) (fun r=>some r)
instance slices_Index_int_int_le (p1:(List Int))(p2:Int):Le (A0e p1 p2) (U2 p1 p2):=by unfold A0e U2;infer_instance
def T3 (p1:(List Int))(p2:Int):Option Bool:=
  (A0e p1 p2).bind fun v1=>some (decide (v1≥0))
instance slices_Contains_int_int_le (p1:(List Int))(p2:Int):Le (T3 p1 p2) (P4 p1 p2):=by unfold T3 P4;infer_instance
def A6h (p1:Map)(p2:Int)(x1:((List Int)×Int)):Option (Stp ((List Int)×Int) (List Int)):=
  cond (decide (x1.2< (p1.Lanes.length:Int))) ((G3 p1.Lanes x1.2).bind fun v1=>(T3 v1.Next p2).bind fun v2=>cond v2 ((A9r x1.1 [x1.2]).bind fun v3=>some (.go (v3,(w64 (x1.2+1))))) (some (.go (x1.1,(w64 (x1.2+1)))))) (some (.out x1.1))
instance roads_before_l1_le (p1:Map)(p2:Int)(x1:((List Int)×Int)):Le (A6h p1 p2 x1) (A2a p1 p2 x1):=by unfold A6h A2a;infer_instance
def B09 (p1:Map)(p2:Int):Option (List Int):=
  (R0 (A6h p1 p2) ([],0)).bind fun y1=>some y1
instance roads_before_le (p1:Map)(p2:Int):Le (B09 p1 p2) (A5z p1 p2):=by unfold B09 A5z;infer_instance
def A39 (p1:Map)(v7:List Int)(x1:(Int×Int)):Option (Stp (Int×Int) (Sum Unit Int)):=
  cond (decide (x1.2< (v7.length:Int))) ((G3 v7 x1.2).bind fun v8=>(G3 p1.Lanes x1.1).bind fun v9=>(T3 v9.Next v8).bind fun v10=>cond (!v10) (some (.out (.inr 13))) (some (.go (v8,(w64 (x1.2+1)))))) (some (.out (.inl ())))
instance roads_CheckRoute_l1_le (p1:Map)(v7:List Int)(x1:(Int×Int)):Le (A39 p1 v7 x1) (Y8 p1 v7 x1):=by unfold A39 Y8;infer_instance
def A31 (p1:Map)(p2:(List Int)):Option Int:=
  (A66 p1).bind fun v1=>cond (v1 !=0) (some v1) (((cond (!(((p2.length:Int)==0)||(decide ((p2.length:Int)>8)))) (G3 p2 0) (some default))).bind fun v2=>((cond (!((((p2.length:Int)==0)||(decide ((p2.length:Int)>8)))||(decide (v2<0)))) (G3 p2 0) (some default))).bind fun v3=>((cond (!(((((p2.length:Int)==0)||(decide ((p2.length:Int)>8)))||(decide (v2<0)))||(decide (v3≥(p1.Lanes.length:Int))))) (G3 p2 0) (some default))).bind fun v4=>((cond (!(((((p2.length:Int)==0)||(decide ((p2.length:Int)>8)))||(decide (v2<0)))||(decide (v3≥(p1.Lanes.length:Int))))) (B09 p1 v4) (some default))).bind fun v5=>cond ((((((p2.length:Int)==0)||(decide ((p2.length:Int)>8)))||(decide (v2<0)))||(decide (v3≥(p1.Lanes.length:Int))))||(decide ((v5.length:Int)>0))) (some 13) ((G3 p2 0).bind fun v6=>(C8t p2 1 (p2.length:Int)).bind fun v7=>thenS (R0 (A39 p1 v7) (v6,0)) (fun _=>some 0) (fun r=>some r)))
instance roads_CheckRoute_le (p1:Map)(p2:(List Int)):Le (A31 p1 p2) (A02 p1 p2):=by unfold A31 A02;repeat' first|infer_instance|with_reducible refine Le.bind (h:= ?_) (hf:=fun _=> ?_)|with_reducible refine Le.cond (h:= ?_) (h':= ?_)|with_reducible refine Le.thenS (h:= ?_) (hf:=fun _=> ?_) (hg:=fun _=> ?_)
def A6i (p1:Map)(p2:(List Int))(x1:(Int× ((List Int)×Int))):Option (Stp (Int× ((List Int)×Int)) ((List Int)×Int)):=
  cond (decide (x1.1< (p2.length:Int))) ((G3 p2 x1.1).bind fun v2=>(A9r x1.2.1 [x1.2.2]).bind fun v3=>(A5k p1 v2).bind fun v4=>some (.go ((w64 (x1.1+1)),(v3,(w64 (x1.2.2+v4)))))) (some (.out x1.2))
instance roads_follow_l1_le (p1:Map)(p2:(List Int))(x1:(Int× ((List Int)×Int))):Le (A6i p1 p2 x1) (A2b p1 p2 x1):=by unfold A6i A2b;infer_instance
def A32 (p1:Map)(p2:(List Int)):Option RoadsWay:=
  (A31 p1 p2).bind fun v1=>cond (v1 !=0) (some (RoadsWay.mk (Map.mk 0 [] [] [] []) [] [] 0)) ((R0 (A6i p1 p2) (0,([],0))).bind fun y1=>some (RoadsWay.mk p1 p2 y1.1 y1.2))
instance roads_follow_le (p1:Map)(p2:(List Int)):Le (A32 p1 p2) (A18 p1 p2):=by unfold A32 A18;infer_instance
def A21 (p1:Map)(p2:(List Int)):Option Int:=
  (A32 p1 p2).bind fun v1=>some v1.length
instance roads_RouteLength_le (p1:Map)(p2:(List Int)):Le (A21 p1 p2) (X8 p1 p2):=by unfold A21 X8;infer_instance
def A53 (p1:Map)(p2:(List Int)):Option (List Int):=
  (A32 p1 p2).bind fun v1=>some v1.starts
instance roads_Starts_le (p1:Map)(p2:(List Int)):Le (A53 p1 p2) (A2c p1 p2):=by unfold A53 A2c;infer_instance
def A8s (p2:Agent)(v1:(List Int))(x1:Int):Option (Stp Int Int):=
  (G3 v1 x1).bind fun v2=>cond (decide (v2>p2.S)) (some (.go (w64 (x1 - 1)))) (some (.out x1))
instance world_lane_l1_le (p2:Agent)(v1:(List Int))(x1:Int):Le (A8s p2 v1 x1) (A4p p2 v1 x1):=by unfold A8s A4p;infer_instance
def B0a (p1:Map)(p2:Agent):Option (Int×Int):=
  (A53 p1 p2.Route).bind fun v1=>(R0 (A8s p2 v1) (w64 ((v1.length:Int) - 1))).bind fun y1=>(G3 p2.Route y1).bind fun v3=>(G3 v1 y1).bind fun v4=>some (v3,(w64 (p2.S - v4)))
instance world_lane_le (p1:Map)(p2:Agent):Le (B0a p1 p2) (A72 p1 p2):=by unfold B0a A72;infer_instance
def A2r (p1:Agent):Option WorldSpan:=
  some (WorldSpan.mk (w64 (p1.S - p1.Len)) p1.S)
instance world_body_le (p1:Agent):Le (A2r p1) (A1n p1):=by unfold A2r A1n;infer_instance
def B0b (p1:Map)(p2:Agent):Option Bool:=
  (A2r p2).bind fun v1=>(A21 p1 p2.Route).bind fun v2=>some (decide (v1.from_>v2))
instance world_left_le (p1:Map)(p2:Agent):Le (B0b p1 p2) (A73 p1 p2):=by unfold B0b A73;infer_instance
def A5l (p1:Map)(p2:State)(p3:Int):Option Int:=
  (G3 p2.Agents p3).bind fun v1=>(A31 p1 v1.Route).bind fun v2=>cond (v2 !=0) (some 13) (((cond (!(((((decide (v1.Len<300))||(decide (v1.Len>20000)))||(decide (v1.Begin<0)))||(decide (v1.Begin>1099511627776)))||(decide (v1.S<0)))) (A21 p1 v1.Route) (some default))).bind fun v3=>cond ((((((decide (v1.Len<300))||(decide (v1.Len>20000)))||(decide (v1.Begin<0)))||(decide (v1.Begin>1099511627776)))||(decide (v1.S<0)))||(decide (v1.S>(w64 ((w64 (v3+v1.Len))+2000))))) (some 2) ((B0a p1 v1).bind fun v4=>(G3 p1.Lanes v4.1).bind fun v5=>(A30 v5.Kind).bind fun v6=>cond ((decide (v1.V<0))||(decide (v1.V>v6.1))) (some 2) ((B0b p1 v1).bind fun v7=>cond ((!(v1.Gone==v7))||(((decide (v1.Begin>p2.Tick))&& (v1.S !=0))||((p3==0)&& (v1.Begin !=0)))) (some 10) (some 0))))
instance world_checkAgent_le (p1:Map)(p2:State)(p3:Int):Le (A5l p1 p2 p3) (A1j p1 p2 p3):=by unfold A5l A1j;repeat' first|infer_instance|with_reducible refine Le.bind (h:= ?_) (hf:=fun _=> ?_)|with_reducible refine Le.cond (h:= ?_) (h':= ?_)|with_reducible refine Le.thenS (h:= ?_) (hf:=fun _=> ?_) (hg:=fun _=> ?_)
def A5r (p1:Int):Option Bool:=
  some (p1 !=p1)
instance cmp_isNaN_int_le (p1:Int):Le (A5r p1) (A2v p1):=by unfold A5r A2v;infer_instance
def A05 (p1:Int)(p2:Int):Option Int:=
  (A5r p1).bind fun v1=>(A5r p2).bind fun v2=>cond v1 (cond v2 (some 0) (some (-1))) (cond v2 (some 1) (cond (decide (p1<p2)) (some (-1)) (cond (decide (p1>p2)) (some 1) (some 0))))
instance cmp_Compare_int_le (p1:Int)(p2:Int):Le (A05 p1 p2) (V6 p1 p2):=by unfold A05 V6;infer_instance
def A8t (p1:(List Int))(x1:Int):Option (Stp Int (Sum Unit Int)):=
  cond (decide (x1< (p1.length:Int))) ((G3 p1 x1).bind fun v1=>cond (v1 !=0) (some (.out (.inr v1))) (some (.go (w64 (x1+1))))) (some (.out (.inl ())))
instance cmp_Or_int_l1_le (p1:(List Int))(x1:Int):Le (A8t p1 x1) (A4q p1 x1):=by unfold A8t A4q;infer_instance
def A7w (p1:(List Int)):Option Int:=
  thenS (R0 (A8t p1) 0) (fun _=>some 0) (fun r=>some r)
instance cmp_Or_int_le (p1:(List Int)):Le (A7w p1) (A5g p1):=by unfold A7w A5g;infer_instance
def A67 (p1:Stay)(p2:Stay):Option Int:=
  (A05 p1.Agent_ p2.Agent_).bind fun v1=>(A05 p1.Zone_ p2.Zone_).bind fun v2=>(A7w [v1,v2]).bind fun v3=>some v3
instance world_order_le (p1:Stay)(p2:Stay):Le (A67 p1 p2) (A3z p1 p2):=by unfold A67 A3z;infer_instance
def A6j (p1:Stay)(p2:State):Option Bool:=
  some ((((decide (p1.Since<0))||(decide (p1.Since>p2.Tick)))||(decide (p1.Rank<0)))||(decide (p1.Rank>100)))
instance world_Check_1_b_le (p1:Stay)(p2:State):Le (A6j p1 p2) (A2d p1 p2):=by unfold A6j A2d;infer_instance
def O3 (p1:(List Stay))(p2:State)(x1:Int):Option (Stp Int (Sum Unit Int)):=
  cond (decide (x1< (p1.length:Int))) ((G3 p1 x1).bind fun v1=>(A6j v1 p2).bind fun v2=>cond v2 (some (.out (.inr x1))) (some (.go (w64 (x1+1))))) (some (.out (.inl ())))
instance slices_IndexFunc_Stay_Stay_world_Check_1b_l1_le (p1:(List Stay))(p2:State)(x1:Int):Le (O3 p1 p2 x1) (G4 p1 p2 x1):=by unfold O3 G4;infer_instance
def Q0 (p1:(List Stay))(p2:State):Option Int:=
  thenS (R0 (O3 p1 p2) 0) (fun _=>some (-1)) (fun r=>some r)
instance slices_IndexFunc_Stay_Stay_world_Check_1b_le (p1:(List Stay))(p2:State):Le (Q0 p1 p2) (I7 p1 p2):=by unfold Q0 I7;infer_instance
def O4 (p1:(List Stay))(p2:State):Option Bool:=
  (Q0 p1 p2).bind fun v1=>some (decide (v1≥0))
instance slices_ContainsFunc_Stay_Stay_world_Check_1b_le (p1:(List Stay))(p2:State):Le (O4 p1 p2) (G5 p1 p2):=by unfold O4 G5;infer_instance
def A7x (p1:Map)(p2:State)(x2:Int):Option (Stp Int (Sum Unit Int)):=
  cond (decide (x2< (p2.In.length:Int))) ((G3 p2.In x2).bind fun v3=>((cond ((!((((decide (v3.Agent_<0))||(decide (v3.Agent_≥(p2.Agents.length:Int))))||(decide (v3.Zone_<0)))||(decide (v3.Zone_≥(p1.Zones.length:Int)))))&& (decide (x2>0))) (G3 p2.In (w64 (x2 - 1))) (some default))).bind fun v4=>((cond ((!((((decide (v3.Agent_<0))||(decide (v3.Agent_≥(p2.Agents.length:Int))))||(decide (v3.Zone_<0)))||(decide (v3.Zone_≥(p1.Zones.length:Int)))))&& (decide (x2>0))) (A67 v4 v3) (some default))).bind fun v5=>cond (((((decide (v3.Agent_<0))||(decide (v3.Agent_≥(p2.Agents.length:Int))))||(decide (v3.Zone_<0)))||(decide (v3.Zone_≥(p1.Zones.length:Int))))||((decide (x2>0))&& (decide (v5≥0)))) (some (.out (.inr 11))) (some (.go (w64 (x2+1))))) (some (.out (.inl ())))
instance world_Check_l2_le (p1:Map)(p2:State)(x2:Int):Le (A7x p1 p2 x2) (A3h p1 p2 x2):=by unfold A7x A3h;repeat' first|infer_instance|with_reducible refine Le.bind (h:= ?_) (hf:=fun _=> ?_)|with_reducible refine Le.cond (h:= ?_) (h':= ?_)|with_reducible refine Le.thenS (h:= ?_) (hf:=fun _=> ?_) (hg:=fun _=> ?_)
def A7y (p1:Map)(p2:State)(x1:Int):Option (Stp Int (Sum Unit Int)):=
  cond (decide (x1< (p2.Agents.length:Int))) ((A5l p1 p2 x1).bind fun v2=>cond (v2 !=0) (some (.out (.inr v2))) (some (.go (w64 (x1+1))))) (some (.out (.inl ())))
instance world_Check_l1_le (p1:Map)(p2:State)(x1:Int):Le (A7y p1 p2 x1) (A3i p1 p2 x1):=by unfold A7y A3i;infer_instance
def A68 (p1:Map)(p2:State):Option Int:=
  (A66 p1).bind fun v1=>cond (v1 !=0) (some v1) (cond ((decide (p2.Tick<0))||(decide (p2.Tick>1099511627776))) (some 2) (cond ((p2.Agents.length:Int)==0) (some 6) (cond (decide ((p2.Agents.length:Int)>8)) (some 8) (thenS (R0 (A7y p1 p2) 0) (fun _=>thenS (R0 (A7x p1 p2) 0) (fun _=>(O4 p2.In p2).bind fun v6=>cond v6 (some 2) (some 0)) (fun r=>some r)) (fun r=>some r)))))
instance world_Check_le (p1:Map)(p2:State):Le (A68 p1 p2) (A40 p1 p2):=by unfold A68 A40;repeat' first|infer_instance|with_reducible refine Le.bind (h:= ?_) (hf:=fun _=> ?_)|with_reducible refine Le.cond (h:= ?_) (h':= ?_)|with_reducible refine Le.thenS (h:= ?_) (hf:=fun _=> ?_) (hg:=fun _=> ?_)
def B19 (p1:Agent):Option Bool:=
  some p1.Gone
instance world_New_1_le (p1:Agent):Le (B19 p1) (A7l p1):=by unfold B19 A7l;infer_instance
def O7 (p1:(List Agent))(x1:Int):Option (Stp Int (Sum Unit Int)):=
  cond (decide (x1< (p1.length:Int))) ((G3 p1 x1).bind fun v1=>(B19 v1).bind fun v2=>cond v2 (some (.out (.inr x1))) (some (.go (w64 (x1+1))))) (some (.out (.inl ())))
instance slices_IndexFunc_Agent_Agent_world_New_1_l1_le (p1:(List Agent))(x1:Int):Le (O7 p1 x1) (G9 p1 x1):=by unfold O7 G9;infer_instance
def Q2 (p1:(List Agent)):Option Int:=
  thenS (R0 (O7 p1) 0) (fun _=>some (-1)) (fun r=>some r)
instance slices_IndexFunc_Agent_Agent_world_New_1_le (p1:(List Agent)):Le (Q2 p1) (I9 p1):=by unfold Q2 I9;infer_instance
def O8 (p1:(List Agent)):Option Bool:=
  (Q2 p1).bind fun v1=>some (decide (v1≥0))
instance slices_ContainsFunc_Agent_Agent_world_New_1_le (p1:(List Agent)):Le (O8 p1) (H4 p1):=by unfold O8 H4;infer_instance
def A49 (p1:State)(p2:Int):Option Bool:=
  ((cond ((decide (p2≥0))&& (decide (p2< (p1.Agents.length:Int)))) (G3 p1.Agents p2) (some default))).bind fun v1=>((cond (((decide (p2≥0))&& (decide (p2< (p1.Agents.length:Int))))&& (!v1.Gone)) (G3 p1.Agents p2) (some default))).bind fun v2=>some ((((decide (p2≥0))&& (decide (p2< (p1.Agents.length:Int))))&& (!v1.Gone))&& (decide (v2.Begin≤p1.Tick)))
instance world_There_le (p1:State)(p2:Int):Le (A49 p1 p2) (A2e p1 p2):=by unfold A49 A2e;repeat' first|infer_instance|with_reducible refine Le.bind (h:= ?_) (hf:=fun _=> ?_)|with_reducible refine Le.cond (h:= ?_) (h':= ?_)|with_reducible refine Le.thenS (h:= ?_) (hf:=fun _=> ?_) (hg:=fun _=> ?_)
def A7z (p1:Agent):Option Bool:=
  some ((((decide (p1.S≥0))&& (decide (p1.S≤1099511627776)))&& (decide (p1.Len≥0)))&& (decide (p1.Len≤1099511627776)))
instance world_sane_le (p1:Agent):Le (A7z p1) (A5h p1):=by unfold A7z A5h;infer_instance
def A06 (p1:Int):Option Bool:=
  some (p1 !=p1)
instance cmp_isNaN_int64_le (p1:Int):Le (A06 p1) (V7 p1):=by unfold A06 V7;infer_instance
def A22 (p1:Int)(p2:Int):Option Int:=
  (A06 p1).bind fun v1=>(A06 p2).bind fun v2=>cond v1 (cond v2 (some 0) (some (-1))) (cond v2 (some 1) (cond (decide (p1<p2)) (some (-1)) (cond (decide (p1>p2)) (some 1) (some 0))))
instance cmp_Compare_int64_le (p1:Int)(p2:Int):Le (A22 p1 p2) (X9 p1 p2):=by unfold A22 X9;infer_instance
def A80 (p1:Pass)(p2:Pass):Option Int:=
  (A22 p1.From p2.From).bind fun v1=>(A05 p1.Zone_ p2.Zone_).bind fun v2=>(A7w [v1,v2]).bind fun v3=>some v3
instance roads_Passes_1_le (p1:Pass)(p2:Pass):Le (A80 p1 p2) (A3j p1 p2):=by unfold A80 A3j;infer_instance
def K7 (p2:Int)(x2:(Int× (List Pass))):Option (Stp (Int× (List Pass)) (List Pass)):=
  ((cond (decide (x2.1>p2)) (G3 x2.2 x2.1) (some default))).bind fun v1=>((cond (decide (x2.1>p2)) (G3 x2.2 (w64 (x2.1 - 1))) (some default))).bind fun v2=>((cond (decide (x2.1>p2)) (A80 v1 v2) (some default))).bind fun v3=>cond ((decide (x2.1>p2))&& (decide (v3<0))) ((G3 x2.2 (w64 (x2.1 - 1))).bind fun v4=>(G3 x2.2 x2.1).bind fun v5=>(G3 x2.2 x2.1).bind fun v6=>(G3 (B7g x2.2 x2.1 v4) (w64 (x2.1 - 1))).bind fun v7=>some (.go ((w64 (x2.1 - 1)),(B7g (B7g x2.2 x2.1 v4) (w64 (x2.1 - 1)) v5)))) (some (.out x2.2))
instance slices_insertionSortCmpFunc_Pass_a_roads_Passes_1_l2_le (p2:Int)(x2:(Int× (List Pass))):Le (K7 p2 x2) (D4 p2 x2):=by unfold K7 D4;repeat' first|infer_instance|with_reducible refine Le.bind (h:= ?_) (hf:=fun _=> ?_)|with_reducible refine Le.cond (h:= ?_) (h':= ?_)|with_reducible refine Le.thenS (h:= ?_) (hf:=fun _=> ?_) (hg:=fun _=> ?_)
def K8 (p2:Int)(p3:Int)(x1:(Int× (List Pass))):Option (Stp (Int× (List Pass)) (List Pass)):=
  cond (decide (x1.1<p3)) ((R0 (K7 p2) (x1.1,x1.2)).bind fun y1=>some (.go ((w64 (x1.1+1)),y1))) (some (.out (x1.2)))
instance slices_insertionSortCmpFunc_Pass_a_roads_Passes_1_l1_le (p2:Int)(p3:Int)(x1:(Int× (List Pass))):Le (K8 p2 p3 x1) (D5 p2 p3 x1):=by unfold K8 D5;infer_instance
def H9 (p1:(List Pass))(p2:Int)(p3:Int):Option (List Pass):=
  R0 (K8 p2 p3) ((w64 (p2+1)),p1)
instance slices_insertionSortCmpFunc_Pass_a_roads_Passes_1_le (p1:(List Pass))(p2:Int)(p3:Int):Le (H9 p1 p2 p3) (C1 p1 p2 p3):=by unfold H9 C1;infer_instance
def N7 (p2:Int)(x3:(Int×Int)):Option (Stp (Int×Int) Int):=
  cond (decide (x3.2≤p2)) (none) (some (.out x3.1))
instance slices_stableCmpFunc_Pass_a_roads_Passes_1_l3_le (p2:Int)(x3:(Int×Int)):Le (N7 p2 x3) (F7 p2 x3):=by unfold N7 F7;infer_instance
def N8 (p2:Int)(v2:(List Pass))(x2:Int):Option (Stp Int (List Pass)):=
  cond (decide (x2<p2)) ((R0 (N7 p2) (0,(w64 (2*x2)))).bind fun y2=>cond (decide ((w64 (y2+x2))<p2)) (none) (some (.go (w64 (x2*2))))) (some (.out (v2)))
instance slices_stableCmpFunc_Pass_a_roads_Passes_1_l2_le (p2:Int)(v2:(List Pass))(x2:Int):Le (N8 p2 v2 x2) (F8 p2 v2 x2):=by unfold N8 F8;infer_instance
def N9 (p2:Int)(x1:(Int×Int× (List Pass))):Option (Stp (Int×Int× (List Pass)) (Int× (List Pass))):=
  cond (decide (x1.2.1≤p2)) ((H9 x1.2.2 x1.1 x1.2.1).bind fun v1=>some (.go (x1.2.1,(w64 (x1.2.1+20)),v1))) (some (.out (x1.1,x1.2.2)))
instance slices_stableCmpFunc_Pass_a_roads_Passes_1_l1_le (p2:Int)(x1:(Int×Int× (List Pass))):Le (N9 p2 x1) (F9 p2 x1):=by unfold N9 F9;infer_instance
def P5 (p1:(List Pass))(p2:Int):Option (List Pass):=
  (R0 (N9 p2) (0,20,p1)).bind fun y1=>(H9 y1.2 y1.1 p2).bind fun v2=>R0 (N8 p2 v2) 20
instance slices_stableCmpFunc_Pass_a_roads_Passes_1_le (p1:(List Pass))(p2:Int):Le (P5 p1 p2) (I4 p1 p2):=by unfold P5 I4;infer_instance
def M6 (p1:(List Pass)):Option (List Pass):=
  (P5 p1 (p1.length:Int)).bind fun v1=>some v1
instance slices_SortStableFunc_Pass_Pass_a_roads_Passes_1_le (p1:(List Pass)):Le (M6 p1) (E9 p1):=by unfold M6 E9;infer_instance
def K9 (p1:Int)(x2:Int):Option (Stp Int Unit):=
  ((cond (decide (x2>p1)) ((none:Option Unit)) (some default))).bind fun v1=>cond ((decide (x2>p1))&&false) (none) (some (.out ()))
instance slices_insertionSortCmpFunc_Pass_n_roads_Passes_1_l2_le (p1:Int)(x2:Int):Le (K9 p1 x2) (D6 p1 x2):=by unfold K9 D6;infer_instance
def L0 (p1:Int)(p2:Int)(x1:Int):Option (Stp Int Unit):=
  cond (decide (x1<p2)) ((R0 (K9 p1) x1).bind fun _=>some (.go (w64 (x1+1)))) (some (.out (())))
instance slices_insertionSortCmpFunc_Pass_n_roads_Passes_1_l1_le (p1:Int)(p2:Int)(x1:Int):Le (L0 p1 p2 x1) (D7 p1 p2 x1):=by unfold L0 D7;infer_instance
def I0 (p1:Int)(p2:Int):Option Unit:=
  R0 (L0 p1 p2) (w64 (p1+1))
instance slices_insertionSortCmpFunc_Pass_n_roads_Passes_1_le (p1:Int)(p2:Int):Le (I0 p1 p2) (C2 p1 p2):=by unfold I0 C2;infer_instance
def O0 (p1:Int)(x3:(Int×Int)):Option (Stp (Int×Int) Int):=
  cond (decide (x3.2≤p1)) (none) (some (.out x3.1))
instance slices_stableCmpFunc_Pass_n_roads_Passes_1_l3_le (p1:Int)(x3:(Int×Int)):Le (O0 p1 x3) (G0 p1 x3):=by unfold O0 G0;infer_instance
def O1 (p1:Int)(x2:Int):Option (Stp Int Unit):=
  cond (decide (x2<p1)) ((R0 (O0 p1) (0,(w64 (2*x2)))).bind fun y2=>cond (decide ((w64 (y2+x2))<p1)) (none) (some (.go (w64 (x2*2))))) (some (.out (())))
instance slices_stableCmpFunc_Pass_n_roads_Passes_1_l2_le (p1:Int)(x2:Int):Le (O1 p1 x2) (G1 p1 x2):=by unfold O1 G1;infer_instance
def O2 (p1:Int)(x1:(Int×Int)):Option (Stp (Int×Int) Int):=
  cond (decide (x1.2≤p1)) ((I0 x1.1 x1.2).bind fun v1=>some (.go (x1.2,(w64 (x1.2+20))))) (some (.out x1.1))
instance slices_stableCmpFunc_Pass_n_roads_Passes_1_l1_le (p1:Int)(x1:(Int×Int)):Le (O2 p1 x1) (G2 p1 x1):=by unfold O2 G2;infer_instance
def P6 (p1:Int):Option Unit:=
  (R0 (O2 p1) (0,20)).bind fun y1=>(I0 y1 p1).bind fun v2=>R0 (O1 p1) 20
instance slices_stableCmpFunc_Pass_n_roads_Passes_1_le (p1:Int):Le (P6 p1) (I5 p1):=by unfold P6 I5;infer_instance
def M7:Option Unit:=
  (P6 0).bind fun v1=>some ()
instance slices_SortStableFunc_Pass_Pass_n_roads_Passes_1_le:Le (M7) (F0):=by unfold M7 F0;infer_instance
def A6k (v1:RoadsWay)(x1:((List Pass)×Int))(v2:Int)(x2:((List Pass)×Int))(v3:Zone)(x3:((List Pass)×Int)):Option (Stp ((List Pass)×Int) (List Pass)):=
  cond (decide (x3.2< (v3.Parts.length:Int))) ((G3 v3.Parts x3.2).bind fun v4=>cond (v4.Lane_==v2) ((G3 v1.starts x1.2).bind fun v5=>(G3 v1.starts x1.2).bind fun v6=>(A9r x3.1 [(Pass.mk x2.2 x3.2 (w64 (v5+v4.From)) (w64 (v6+v4.To)))]).bind fun v7=>some (.go (v7,(w64 (x3.2+1))))) (some (.go (x3.1,(w64 (x3.2+1)))))) (some (.out x3.1))
instance roads_Passes_l3_le (v1:RoadsWay)(x1:((List Pass)×Int))(v2:Int)(x2:((List Pass)×Int))(v3:Zone)(x3:((List Pass)×Int)):Le (A6k v1 x1 v2 x2 v3 x3) (A2f v1 x1 v2 x2 v3 x3):=by unfold A6k A2f;repeat' first|infer_instance|with_reducible refine Le.bind (h:= ?_) (hf:=fun _=> ?_)|with_reducible refine Le.cond (h:= ?_) (h':= ?_)|with_reducible refine Le.thenS (h:= ?_) (hf:=fun _=> ?_) (hg:=fun _=> ?_)
def A6l (p1:Map)(v1:RoadsWay)(x1:((List Pass)×Int))(v2:Int)(x2:((List Pass)×Int)):Option (Stp ((List Pass)×Int) (List Pass)):=
  cond (decide (x2.2< (p1.Zones.length:Int))) ((G3 p1.Zones x2.2).bind fun v3=>(R0 (A6k v1 x1 v2 x2 v3) (x2.1,0)).bind fun y3=>some (.go (y3,(w64 (x2.2+1))))) (some (.out x2.1))
instance roads_Passes_l2_le (p1:Map)(v1:RoadsWay)(x1:((List Pass)×Int))(v2:Int)(x2:((List Pass)×Int)):Le (A6l p1 v1 x1 v2 x2) (A2g p1 v1 x1 v2 x2):=by unfold A6l A2g;infer_instance
def A6m (p1:Map)(v1:RoadsWay)(x1:((List Pass)×Int)):Option (Stp ((List Pass)×Int) (List Pass)):=
  cond (decide (x1.2< (v1.lanes.length:Int))) ((G3 v1.lanes x1.2).bind fun v2=>(R0 (A6l p1 v1 x1 v2) (x1.1,0)).bind fun y2=>some (.go (y2,(w64 (x1.2+1))))) (some (.out x1.1))
instance roads_Passes_l1_le (p1:Map)(v1:RoadsWay)(x1:((List Pass)×Int)):Le (A6m p1 v1 x1) (A2h p1 v1 x1):=by unfold A6m A2h;infer_instance
def B0c (p1:Map)(p2:(List Int)):Option (List Pass):=
  (A32 p1 p2).bind fun v1=>(R0 (A6m p1 v1) ([],0)).bind fun y1=>cond (List.isEmpty y1) ((M7).bind fun v9=>some []) ((M6 y1).bind fun v8=>some v8)
instance roads_Passes_le (p1:Map)(p2:(List Int)):Le (B0c p1 p2) (A60 p1 p2):=by unfold B0c A60;infer_instance
def A3a (p1:Pass)(p2:Int)(p3:WorldSpan):Option Bool:=
  some (((p1.Zone_==p2)&& (decide (p1.From≤p3.to)))&& (decide (p3.from_≤p1.To)))
instance world_Present_1_b_b_le (p1:Pass)(p2:Int)(p3:WorldSpan):Le (A3a p1 p2 p3) (Z1 p1 p2 p3):=by unfold A3a Z1;infer_instance
def M9 (p1:(List Pass))(p2:Int)(p3:WorldSpan)(x1:Int):Option (Stp Int (Sum Unit Int)):=
  cond (decide (x1< (p1.length:Int))) ((G3 p1 x1).bind fun v1=>(A3a v1 p2 p3).bind fun v2=>cond v2 (some (.out (.inr x1))) (some (.go (w64 (x1+1))))) (some (.out (.inl ())))
instance slices_IndexFunc_Pass_Pass_world_Present_1bb_l1_le (p1:(List Pass))(p2:Int)(p3:WorldSpan)(x1:Int):Le (M9 p1 p2 p3 x1) (F1 p1 p2 p3 x1):=by unfold M9 F1;infer_instance
def O5 (p1:(List Pass))(p2:Int)(p3:WorldSpan):Option Int:=
  thenS (R0 (M9 p1 p2 p3) 0) (fun _=>some (-1)) (fun r=>some r)
instance slices_IndexFunc_Pass_Pass_world_Present_1bb_le (p1:(List Pass))(p2:Int)(p3:WorldSpan):Le (O5 p1 p2 p3) (G6 p1 p2 p3):=by unfold O5 G6;infer_instance
def N0 (p1:(List Pass))(p2:Int)(p3:WorldSpan):Option Bool:=
  (O5 p1 p2 p3).bind fun v1=>some (decide (v1≥0))
instance slices_ContainsFunc_Pass_Pass_world_Present_1bb_le (p1:(List Pass))(p2:Int)(p3:WorldSpan):Le (N0 p1 p2 p3) (F2 p1 p2 p3):=by unfold N0 F2;infer_instance
def A8u (p1:Map)(p2:Agent)(p3:Agent)(p4:Int):Option Bool:=
  (A7z p2).bind fun v1=>((cond (!(!v1)) (A7z p3) (some default))).bind fun v2=>cond ((!v1)||(!v2)) (some false) ((A2r p2).bind fun v3=>(B0c p1 p2.Route).bind fun v4=>(N0 v4 p4 (WorldSpan.mk v3.from_ p3.S)).bind fun v5=>some v5)
instance world_Present_le (p1:Map)(p2:Agent)(p3:Agent)(p4:Int):Le (A8u p1 p2 p3 p4) (A4r p1 p2 p3 p4):=by unfold A8u A4r;infer_instance
def S3 (p1:WorldScene)(p2:Int)(p3:Int):Option Bool:=
  (A49 p1.before p2).bind fun v1=>((cond v1 (G3 p1.before.Agents p2) (some default))).bind fun v2=>((cond v1 (G3 p1.after.Agents p2) (some default))).bind fun v3=>((cond v1 (A8u p1.m v2 v3 p3) (some default))).bind fun v4=>some (v1&&v4)
instance world_scene_present_b_le (p1:WorldScene)(p2:Int)(p3:Int):Le (S3 p1 p2 p3) (P3 p1 p2 p3):=by unfold S3 P3;infer_instance
def K3 (p1:(List Stay))(p2:Stay)(x1:(Int×Int)):Option (Stp (Int×Int) Int):=
  cond (decide (x1.1<x1.2)) ((G3 p1 (w64 ((IntKind.wrap .u64 (w64 (x1.1+x1.2))).fdiv (2^ (min (1:Int).toNat (IntKind.bits .u64)))))).bind fun v1=>(A67 v1 p2).bind fun v2=>cond (decide (v2<0)) (some (.go ((w64 ((w64 ((IntKind.wrap .u64 (w64 (x1.1+x1.2))).fdiv (2^ (min (1:Int).toNat (IntKind.bits .u64)))))+1)),x1.2))) (some (.go (x1.1,(w64 ((IntKind.wrap .u64 (w64 (x1.1+x1.2))).fdiv (2^ (min (1:Int).toNat (IntKind.bits .u64))))))))) (some (.out x1.1))
instance slices_BinarySearchFunc_Stay_Stay_Stay_world_order_l1_le (p1:(List Stay))(p2:Stay)(x1:(Int×Int)):Le (K3 p1 p2 x1) (D2 p1 p2 x1):=by unfold K3 D2;repeat' first|infer_instance|with_reducible refine Le.bind (h:= ?_) (hf:=fun _=> ?_)|with_reducible refine Le.cond (h:= ?_) (h':= ?_)|with_reducible refine Le.thenS (h:= ?_) (hf:=fun _=> ?_) (hg:=fun _=> ?_)
def E0 (p1:(List Stay))(p2:Stay):Option (Int×Bool):=
  (R0 (K3 p1 p2) (0,(p1.length:Int))).bind fun y1=>((cond (decide (y1< (p1.length:Int))) (G3 p1 y1) (some default))).bind fun v3=>((cond (decide (y1< (p1.length:Int))) (A67 v3 p2) (some default))).bind fun v4=>some (y1,((decide (y1< (p1.length:Int)))&& (v4==0)))
instance slices_BinarySearchFunc_Stay_Stay_Stay_world_order_le (p1:(List Stay))(p2:Stay):Le (E0 p1 p2) (B9 p1 p2):=by unfold E0 B9;repeat' first|infer_instance|with_reducible refine Le.bind (h:= ?_) (hf:=fun _=> ?_)|with_reducible refine Le.cond (h:= ?_) (h':= ?_)|with_reducible refine Le.thenS (h:= ?_) (hf:=fun _=> ?_) (hg:=fun _=> ?_)
def A81 (p1:Part)(p2:Int):Option Bool:=
  some (p1.Lane_==p2)
instance roads_part_1_b_le (p1:Part)(p2:Int):Le (A81 p1 p2) (A3k p1 p2):=by unfold A81 A3k;infer_instance
def O9 (p1:(List Part))(p2:Int)(x1:Int):Option (Stp Int (Sum Unit Int)):=
  cond (decide (x1< (p1.length:Int))) ((G3 p1 x1).bind fun v1=>(A81 v1 p2).bind fun v2=>cond v2 (some (.out (.inr x1))) (some (.go (w64 (x1+1))))) (some (.out (.inl ())))
instance slices_IndexFunc_Part_Part_roads_part_1b_l1_le (p1:(List Part))(p2:Int)(x1:Int):Le (O9 p1 p2 x1) (H5 p1 p2 x1):=by unfold O9 H5;infer_instance
def Q3 (p1:(List Part))(p2:Int):Option Int:=
  thenS (R0 (O9 p1 p2) 0) (fun _=>some (-1)) (fun r=>some r)
instance slices_IndexFunc_Part_Part_roads_part_1b_le (p1:(List Part))(p2:Int):Le (Q3 p1 p2) (J0 p1 p2):=by unfold Q3 J0;infer_instance
def B2k (p1:Zone)(p2:Int):Option (Part×Bool):=
  (Q3 p1.Parts p2).bind fun v1=>cond (decide (v1<0)) (some ((Part.mk 0 0 0 0),false)) ((G3 p1.Parts v1).bind fun v2=>some (v2,true))
instance roads_part_le (p1:Zone)(p2:Int):Le (B2k p1 p2) (A9i p1 p2):=by unfold B2k A9i;infer_instance
def A54 (p1:Int)(p2:Map)(p3:Int):Option Bool:=
  (G3 p2.Zones p3).bind fun v1=>(B2k v1 p1).bind fun v2=>some v2.2
instance roads_Entry_1_b_b_le (p1:Int)(p2:Map)(p3:Int):Le (A54 p1 p2 p3) (A0z p1 p2 p3):=by unfold A54 A0z;infer_instance
def P0 (p1:(List Int))(p2:Map)(p3:Int)(x1:Int):Option (Stp Int (Sum Unit Int)):=
  cond (decide (x1< (p1.length:Int))) ((G3 p1 x1).bind fun v1=>(A54 v1 p2 p3).bind fun v2=>cond v2 (some (.out (.inr x1))) (some (.go (w64 (x1+1))))) (some (.out (.inl ())))
instance slices_IndexFunc_int_int_roads_Entry_1bb_l1_le (p1:(List Int))(p2:Map)(p3:Int)(x1:Int):Le (P0 p1 p2 p3 x1) (H6 p1 p2 p3 x1):=by unfold P0 H6;infer_instance
def Q4 (p1:(List Int))(p2:Map)(p3:Int):Option Int:=
  thenS (R0 (P0 p1 p2 p3) 0) (fun _=>some (-1)) (fun r=>some r)
instance slices_IndexFunc_int_int_roads_Entry_1bb_le (p1:(List Int))(p2:Map)(p3:Int):Le (Q4 p1 p2 p3) (J1 p1 p2 p3):=by unfold Q4 J1;infer_instance
def B1a (p1:Map)(p2:(List Int))(p3:Int):Option Int:=
  (A32 p1 p2).bind fun v1=>cond ((decide (p3<0))||(decide (p3≥(p1.Zones.length:Int)))) (some (-1)) ((Q4 v1.lanes p1 p3).bind fun v2=>some v2)
instance roads_Entry_le (p1:Map)(p2:(List Int))(p3:Int):Le (B1a p1 p2 p3) (A7m p1 p2 p3):=by unfold B1a A7m;infer_instance
def A69 (p1:Map)(p2:(List Int))(p3:Int):Option Int:=
  (B1a p1 p2 p3).bind fun v1=>cond (decide (v1≥0)) ((G3 p2 v1).bind fun v2=>some v2) (some (-1))
instance world_entry_le (p1:Map)(p2:(List Int))(p3:Int):Le (A69 p1 p2 p3) (A41 p1 p2 p3):=by unfold A69 A41;infer_instance
def B1b (p1:Map)(p2:Int):Option Bool:=
  ((cond ((decide (p2≥0))&& (decide (p2< (p1.Lanes.length:Int)))) (A66 p1) (some default))).bind fun v1=>some (((decide (p2≥0))&& (decide (p2< (p1.Lanes.length:Int))))&& (v1==0))
instance roads_is_le (p1:Map)(p2:Int):Le (B1b p1 p2) (B01 p1 p2):=by unfold B1b B01;infer_instance
def A82 (p1:Signal)(p2:Int)(x2:(Int×Int)):Option (Stp (Int×Int) (Sum Unit Bool)):=
  cond (decide (x2.2< (p1.Phases.length:Int))) ((G3 p1.Phases x2.2).bind fun v5=>cond (decide (x2.1≥v5.Ticks)) (some (.go ((w64 (x2.1 - v5.Ticks)),(w64 (x2.2+1))))) ((T3 v5.Green p2).bind fun v6=>some (.out (.inr v6)))) (some (.out (.inl ())))
instance signs_Green_l2_le (p1:Signal)(p2:Int)(x2:(Int×Int)):Le (A82 p1 p2 x2) (A3l p1 p2 x2):=by unfold A82 A3l;infer_instance
def A83 (p1:Signal)(x1:(Int×Int)):Option (Stp (Int×Int) Int):=
  cond (decide (x1.2< (p1.Phases.length:Int))) ((G3 p1.Phases x1.2).bind fun v1=>some (.go ((w64 (x1.1+v1.Ticks)),(w64 (x1.2+1))))) (some (.out x1.1))
instance signs_Green_l1_le (p1:Signal)(x1:(Int×Int)):Le (A83 p1 x1) (A3m p1 x1):=by unfold A83 A3m;infer_instance
def A8i (p1:Signal)(p2:Int)(p3:Int):Option Bool:=
  (R0 (A83 p1) (0,0)).bind fun y1=>(C0y p1.Offset y1).bind fun v2=>(C0y p3 y1).bind fun v3=>(C0y (w64 (v2+v3)) y1).bind fun v4=>thenS (R0 (A82 p1 p2) (v4,0)) (fun _=>some false) (fun r=>some r)
instance signs_Green_le (p1:Signal)(p2:Int)(p3:Int):Le (A8i p1 p2 p3) (A5i p1 p2 p3):=by unfold A8i A5i;infer_instance
def B1c (p1:Map)(p2:Int)(p3:Int)(p4:Int):Option Bool:=
  ((cond (((decide (p4≥0))&& (decide (p2≥0)))&& (decide (p2< (p1.Signals.length:Int)))) (B1b p1 p3) (some default))).bind fun v1=>((cond ((((decide (p4≥0))&& (decide (p2≥0)))&& (decide (p2< (p1.Signals.length:Int))))&&v1) (G3 p1.Signals p2) (some default))).bind fun v2=>((cond ((((decide (p4≥0))&& (decide (p2≥0)))&& (decide (p2< (p1.Signals.length:Int))))&&v1) (A8i v2 p3 p4) (some default))).bind fun v3=>some (((((decide (p4≥0))&& (decide (p2≥0)))&& (decide (p2< (p1.Signals.length:Int))))&&v1)&&v3)
instance roads_Green_le (p1:Map)(p2:Int)(p3:Int)(p4:Int):Le (B1c p1 p2 p3 p4) (A7n p1 p2 p3 p4):=by unfold B1c A7n;repeat' first|infer_instance|with_reducible refine Le.bind (h:= ?_) (hf:=fun _=> ?_)|with_reducible refine Le.cond (h:= ?_) (h':= ?_)|with_reducible refine Le.thenS (h:= ?_) (hf:=fun _=> ?_) (hg:=fun _=> ?_)
def A84 (p1:Part)(p2:Int):Option Bool:=
  some (p1.Lane_==p2)
instance world_Rank_1_b_le (p1:Part)(p2:Int):Le (A84 p1 p2) (A3n p1 p2):=by unfold A84 A3n;infer_instance
def P1 (p1:(List Part))(p2:Int)(x1:Int):Option (Stp Int (Sum Unit Int)):=
  cond (decide (x1< (p1.length:Int))) ((G3 p1 x1).bind fun v1=>(A84 v1 p2).bind fun v2=>cond v2 (some (.out (.inr x1))) (some (.go (w64 (x1+1))))) (some (.out (.inl ())))
instance slices_IndexFunc_Part_Part_world_Rank_1b_l1_le (p1:(List Part))(p2:Int)(x1:Int):Le (P1 p1 p2 x1) (H7 p1 p2 x1):=by unfold P1 H7;infer_instance
def Q5 (p1:(List Part))(p2:Int):Option Int:=
  thenS (R0 (P1 p1 p2) 0) (fun _=>some (-1)) (fun r=>some r)
instance slices_IndexFunc_Part_Part_world_Rank_1b_le (p1:(List Part))(p2:Int):Le (Q5 p1 p2) (J2 p1 p2):=by unfold Q5 J2;infer_instance
def B0d (p1:Map)(p2:Agent)(p3:Int)(p4:Int):Option Int:=
  (A69 p1 p2.Route p3).bind fun v1=>cond (decide (v1<0)) (some 0) ((G3 p1.Zones p3).bind fun v2=>((cond (decide (v2.Signal_>0)) (B1c p1 (w64 (v2.Signal_ - 1)) v1 p4) (some default))).bind fun v3=>cond ((decide (v2.Signal_>0))&&v3) (some 2) (cond (decide (v2.Signal_>0)) (some 0) ((Q5 v2.Parts v1).bind fun v4=>(G3 v2.Parts v4).bind fun v5=>some v5.Rank)))
instance world_Rank_le (p1:Map)(p2:Agent)(p3:Int)(p4:Int):Le (B0d p1 p2 p3 p4) (A74 p1 p2 p3 p4):=by unfold B0d A74;repeat' first|infer_instance|with_reducible refine Le.bind (h:= ?_) (hf:=fun _=> ?_)|with_reducible refine Le.cond (h:= ?_) (h':= ?_)|with_reducible refine Le.thenS (h:= ?_) (hf:=fun _=> ?_) (hg:=fun _=> ?_)
def A1f (p1:WorldScene)(x1:(Int× (List Stay)))(v1:Agent)(x2:(Int× (List Stay))):Option (Stp (Int× (List Stay)) (List Stay)):=
  cond (decide (x2.1< (p1.m.Zones.length:Int))) ((S3 (WorldScene.mk p1.m p1.before (State.mk p1.after.Tick p1.after.Agents x2.2) p1.acts p1.crashes) x1.1 x2.1).bind fun v2=>cond (!v2) (some (.go ((w64 (x2.1+1)),x2.2))) ((E0 p1.before.In (Stay.mk x1.1 x2.1 p1.before.Tick 0)).bind fun v3=>(cond v3.2 ((G3 p1.before.In v3.1).bind fun v4=>some v4) ((B0d p1.m v1 x2.1 p1.before.Tick).bind fun v5=>some (Stay.mk x1.1 x2.1 p1.before.Tick v5))).bind fun y2=>(A9r x2.2 [y2]).bind fun v6=>some (.go ((w64 (x2.1+1)),v6)))) (some (.out x2.2))
instance world_scene_stays_o_l2_le (p1:WorldScene)(x1:(Int× (List Stay)))(v1:Agent)(x2:(Int× (List Stay))):Le (A1f p1 x1 v1 x2) (U6 p1 x1 v1 x2):=by unfold A1f U6;repeat' first|infer_instance|with_reducible refine Le.bind (h:= ?_) (hf:=fun _=> ?_)|with_reducible refine Le.cond (h:= ?_) (h':= ?_)|with_reducible refine Le.thenS (h:= ?_) (hf:=fun _=> ?_) (hg:=fun _=> ?_)
def A1g (p1:WorldScene)(x1:(Int× (List Stay))):Option (Stp (Int× (List Stay)) WorldScene):=
  cond (decide (x1.1< (p1.before.Agents.length:Int))) ((G3 p1.before.Agents x1.1).bind fun v1=>(R0 (A1f p1 x1 v1) (0,x1.2)).bind fun y1=>some (.go ((w64 (x1.1+1)),y1))) (some (.out ((WorldScene.mk p1.m p1.before (State.mk p1.after.Tick p1.after.Agents x1.2) p1.acts p1.crashes))))
instance world_scene_stays_o_l1_le (p1:WorldScene)(x1:(Int× (List Stay))):Le (A1g p1 x1) (U7 p1 x1):=by unfold A1g U7;repeat' first|infer_instance|with_reducible refine Le.bind (h:= ?_) (hf:=fun _=> ?_)|with_reducible refine Le.cond (h:= ?_) (h':= ?_)|with_reducible refine Le.thenS (h:= ?_) (hf:=fun _=> ?_) (hg:=fun _=> ?_)
def A3b (p1:WorldScene):Option WorldScene:=
  R0 (A1g p1) (0,[])
instance world_scene_stays_o_le (p1:WorldScene):Le (A3b p1) (Z2 p1):=by unfold A3b Z2;infer_instance
def B7w (s:State)(i:Nat):Nat→Nat→Option (List (Int×Int))
  |0,_=>some []
  |k+1,j=>(A49 s i).bind fun a=>(A49 s j).bind fun b=>(B7w s i k (j+1)).bind fun l=>some (cond (a&&b) (((i:Int),(j:Int))::l) l)
instance pairsJ_le (s:State)(i:Nat): ∀(k j:Nat),Le (B7w s i k j) (B47 s i k j)
  |0,j=>Le.refl _
  |k+1,j=>by
   rw [B47,B7w]
   have:=fun j=>pairsJ_le s i k j
   infer_instance
def B7x (s:State)(n:Nat):Nat→Nat→Option (List (Int×Int))
  |0,_=>some []
  |k+1,i=>(B7w s i (n - (i+1)) (i+1)).bind fun a=>(B7x s n k (i+1)).bind fun b=>some (a++b)
instance pairsI_le (s:State)(n:Nat): ∀(k i:Nat),Le (B7x s n k i) (B60 s n k i)
  |0,i=>Le.refl _
  |k+1,i=>by
   rw [B60,B7x]
   have:=fun i=>pairsI_le s n k i
   infer_instance
def B7y (s:State):Option (List (Int×Int)):=if s.Agents.length≤1000000 then B7x s s.Agents.length s.Agents.length 0 else none
instance pairsC_le (s:State):Le (B7y s) (B6w s):=by unfold B7y B6w;infer_instance
def A07 (p1:WorldSpan)(p2:Int):Option WorldSpan:=
  some (WorldSpan.mk (w64 (p1.from_ - p2)) (w64 (p1.to - p2)))
instance world_span_less_le (p1:WorldSpan)(p2:Int):Le (A07 p1 p2) (V8 p1 p2):=by unfold A07 V8;infer_instance
def A55 (p1:Map)(p2:Int):Option Int:=
  (B1b p1 p2).bind fun v1=>cond (!v1) (some 0) ((A5k p1 p2).bind fun v2=>some v2)
instance roads_Length_le (p1:Map)(p2:Int):Le (A55 p1 p2) (A2i p1 p2):=by unfold A55 A2i;infer_instance
def A56 (p1:WorldSpan)(p2:WorldSpan):Option WorldSpan:=
  some (WorldSpan.mk (mm2 true p1.from_ p2.from_) (mm2 false p1.to p2.to))
instance world_span_and_le (p1:WorldSpan)(p2:WorldSpan):Le (A56 p1 p2) (A1o p1 p2):=by unfold A56 A1o;infer_instance
def A33 (p1:WorldSpan):Option Bool:=
  some (decide (p1.from_>p1.to))
instance world_span_empty_le (p1:WorldSpan):Le (A33 p1) (A03 p1):=by unfold A33 A03;infer_instance
def A8v (p1:Map)(p2:Agent)(v2:(List Int))(x1:((List Span)×Int)):Option (Stp ((List Span)×Int) (List Span)):=
  cond (decide (x1.2< (v2.length:Int))) ((G3 v2 x1.2).bind fun v3=>(G3 p2.Route x1.2).bind fun v4=>(A2r p2).bind fun v5=>(A07 v5 v3).bind fun v6=>(A55 p1 v4).bind fun v7=>(A56 v6 (WorldSpan.mk 0 v7)).bind fun v8=>(A33 v8).bind fun v9=>cond (!v9) ((A9r x1.1 [(Span.mk v4 v8.from_ v8.to)]).bind fun v10=>some (.go (v10,(w64 (x1.2+1))))) (some (.go (x1.1,(w64 (x1.2+1)))))) (some (.out x1.1))
instance world_Body_l1_le (p1:Map)(p2:Agent)(v2:(List Int))(x1:((List Span)×Int)):Le (A8v p1 p2 v2 x1) (A4s p1 p2 v2 x1):=by unfold A8v A4s;repeat' first|infer_instance|with_reducible refine Le.bind (h:= ?_) (hf:=fun _=> ?_)|with_reducible refine Le.cond (h:= ?_) (h':= ?_)|with_reducible refine Le.thenS (h:= ?_) (hf:=fun _=> ?_) (hg:=fun _=> ?_)
def B0e (p1:Map)(p2:Agent):Option (List Span):=
  (A7z p2).bind fun v1=>cond (!v1) (some []) ((A53 p1 p2.Route).bind fun v2=>(R0 (A8v p1 p2 v2) ([],0)).bind fun y1=>some y1)
instance world_Body_le (p1:Map)(p2:Agent):Le (B0e p1 p2) (A75 p1 p2):=by unfold B0e A75;infer_instance
def A2s (p1:Span)(p2:Span):Option Bool:=
  ((cond (p2.Lane_==p1.Lane_) (A56 (WorldSpan.mk p2.From p2.To) (WorldSpan.mk p1.From p1.To)) (some default))).bind fun v1=>((cond (p2.Lane_==p1.Lane_) (A33 v1) (some default))).bind fun v2=>some ((p2.Lane_==p1.Lane_)&& (!v2))
instance world_Touching_1_1_b_le (p1:Span)(p2:Span):Le (A2s p1 p2) (X4 p1 p2):=by unfold A2s X4;infer_instance
def M2 (p1:(List Span))(p2:Span)(x1:Int):Option (Stp Int (Sum Unit Int)):=
  cond (decide (x1< (p1.length:Int))) ((G3 p1 x1).bind fun v1=>(A2s v1 p2).bind fun v2=>cond v2 (some (.out (.inr x1))) (some (.go (w64 (x1+1))))) (some (.out (.inl ())))
instance slices_IndexFunc_Span_Span_world_Touching_1_1b_l1_le (p1:(List Span))(p2:Span)(x1:Int):Le (M2 p1 p2 x1) (E3 p1 p2 x1):=by unfold M2 E3;infer_instance
def N3 (p1:(List Span))(p2:Span):Option Int:=
  thenS (R0 (M2 p1 p2) 0) (fun _=>some (-1)) (fun r=>some r)
instance slices_IndexFunc_Span_Span_world_Touching_1_1b_le (p1:(List Span))(p2:Span):Le (N3 p1 p2) (F5 p1 p2):=by unfold N3 F5;infer_instance
def M3 (p1:(List Span))(p2:Span):Option Bool:=
  (N3 p1 p2).bind fun v1=>some (decide (v1≥0))
instance slices_ContainsFunc_Span_Span_world_Touching_1_1b_le (p1:(List Span))(p2:Span):Le (M3 p1 p2) (E4 p1 p2):=by unfold M3 E4;infer_instance
def A44 (p1:Span)(p2:(List Span)):Option Bool:=
  (M3 p2 p1).bind fun v1=>some v1
instance world_Touching_1_b_le (p1:Span)(p2:(List Span)):Le (A44 p1 p2) (A0c p1 p2):=by unfold A44 A0c;infer_instance
def N1 (p1:(List Span))(p2:(List Span))(x1:Int):Option (Stp Int (Sum Unit Int)):=
  cond (decide (x1< (p1.length:Int))) ((G3 p1 x1).bind fun v1=>(A44 v1 p2).bind fun v2=>cond v2 (some (.out (.inr x1))) (some (.go (w64 (x1+1))))) (some (.out (.inl ())))
instance slices_IndexFunc_Span_Span_world_Touching_1b_l1_le (p1:(List Span))(p2:(List Span))(x1:Int):Le (N1 p1 p2 x1) (F3 p1 p2 x1):=by unfold N1 F3;infer_instance
def O6 (p1:(List Span))(p2:(List Span)):Option Int:=
  thenS (R0 (N1 p1 p2) 0) (fun _=>some (-1)) (fun r=>some r)
instance slices_IndexFunc_Span_Span_world_Touching_1b_le (p1:(List Span))(p2:(List Span)):Le (O6 p1 p2) (G7 p1 p2):=by unfold O6 G7;infer_instance
def N2 (p1:(List Span))(p2:(List Span)):Option Bool:=
  (O6 p1 p2).bind fun v1=>some (decide (v1≥0))
instance slices_ContainsFunc_Span_Span_world_Touching_1b_le (p1:(List Span))(p2:(List Span)):Le (N2 p1 p2) (F4 p1 p2):=by unfold N2 F4;infer_instance
def A85 (p1:Map)(p2:Agent)(p3:Agent):Option Bool:=
  (B0e p1 p3).bind fun v1=>(B0e p1 p2).bind fun v2=>(N2 v2 v1).bind fun v3=>some v3
instance world_Touching_le (p1:Map)(p2:Agent)(p3:Agent):Le (A85 p1 p2 p3) (A3o p1 p2 p3):=by unfold A85 A3o;infer_instance
def A0l (p1:WorldScene)(p2:Int)(p3:Int)(p4:Int):Option Bool:=
  (S3 p1 p2 p4).bind fun v1=>((cond v1 (S3 p1 p3 p4) (some default))).bind fun v2=>((cond (v1&&v2) (G3 p1.before.Agents p2) (some default))).bind fun v3=>((cond (v1&&v2) (A69 p1.m v3.Route p4) (some default))).bind fun v4=>((cond (v1&&v2) (G3 p1.before.Agents p3) (some default))).bind fun v5=>((cond (v1&&v2) (A69 p1.m v5.Route p4) (some default))).bind fun v6=>some ((v1&&v2)&& (v4 !=v6))
instance world_scene_clash_b_le (p1:WorldScene)(p2:Int)(p3:Int)(p4:Int):Le (A0l p1 p2 p3 p4) (U8 p1 p2 p3 p4):=by unfold A0l U8;repeat' first|infer_instance|with_reducible refine Le.bind (h:= ?_) (hf:=fun _=> ?_)|with_reducible refine Le.cond (h:= ?_) (h':= ?_)|with_reducible refine Le.thenS (h:= ?_) (hf:=fun _=> ?_) (hg:=fun _=> ?_)
def B0f (p1:Map)(v5:WorldScene)(a1:(Int×Int))(x2:Int):Option (Stp Int (Sum Unit (State×Int))):=
  cond (decide (x2< (p1.Zones.length:Int))) ((A0l v5 a1.1 a1.2 x2).bind fun v10=>cond v10 (some (.out (.inr ((State.mk 0 [] []),12)))) (some (.go (w64 (x2+1))))) (some (.out (.inl ())))
instance world_New_l3_le (p1:Map)(v5:WorldScene)(a1:(Int×Int))(x2:Int):Le (B0f p1 v5 a1 x2) (A61 p1 v5 a1 x2):=by unfold B0f A61;infer_instance
def B0g (p1:Map)(p2:(List Agent))(v5:WorldScene)(x1:Unit)(a1:(Int×Int)):Option (Stp Unit (Sum Unit (State×Int))):=
  (G3 p2 a1.1).bind fun v7=>(G3 p2 a1.2).bind fun v8=>(A85 p1 v7 v8).bind fun v9=>cond v9 (some (.out (.inr ((State.mk 0 [] []),12)))) (thenS (R0 (B0f p1 v5 a1) 0) (fun _=>some (.go ())) (fun r=>some (.out (.inr r))))
instance world_New_l2_le (p1:Map)(p2:(List Agent))(v5:WorldScene)(x1:Unit)(a1:(Int×Int)):Le (B0g p1 p2 v5 x1 a1) (A62 p1 p2 v5 x1 a1):=by unfold B0g A62;infer_instance
def B0h:Option Unit:=
  some ()
instance world_New_i1_le:Le (B0h) (A8f):=by unfold B0h A8f;infer_instance
def B3z (p1:Map)(p2:(List Agent)):Option (State×Int):=
  (B04 (State.mk 0 p2 [])).bind fun v1=>(A68 p1 v1).bind fun v2=>cond (v2 !=0) (some ((State.mk 0 [] []),v2)) ((O8 p2).bind fun v3=>cond v3 (some ((State.mk 0 [] []),10)) ((B04 v1).bind fun v4=>(A3b (WorldScene.mk p1 v1 v4 [] [])).bind fun v5=>(B0h).bind fun y1=>thenS ((B7y v5.before).bind fun v6=>loopL (B0g p1 p2 v5) (fun (x1:Unit)=> .inl ()) v6 ()) (fun _=>some (v5.after,0)) (fun r=>some r)))
instance world_New_le (p1:Map)(p2:(List Agent)):Le (B3z p1 p2) (B13 p1 p2):=by unfold B3z B13;repeat' first|infer_instance|with_reducible refine Le.bind (h:= ?_) (hf:=fun _=> ?_)|with_reducible refine Le.cond (h:= ?_) (h':= ?_)|with_reducible refine Le.thenS (h:= ?_) (hf:=fun _=> ?_) (hg:=fun _=> ?_)
def A6n (p1:Int):Option Int:=
  (cond (decide (p1≥4294967296)) (some ((p1.fdiv (2^ (min (32:Int).toNat (IntKind.bits .u64)))),32)) (some (p1,0))).bind fun y1=>(cond (decide (y1.1≥65536)) (some ((y1.1.fdiv (2^ (min (16:Int).toNat (IntKind.bits .u64)))),(w64 (y1.2+16)))) (some (y1.1,y1.2))).bind fun y2=>cond (decide (y2.1≥256)) ((C87 (ByteArray.mk #[0,1,2,2,3,3,3,3,4,4,4,4,4,4,4,4,5,5,5,5,5,5,5,5,5,5,5,5,5,5,5,5,6,6,6,6,6,6,6,6,6,6,6,6,6,6,6,6,6,6,6,6,6,6,6,6,6,6,6,6,6,6,6,6,7,7,7,7,7,7,7,7,7,7,7,7,7,7,7,7,7,7,7,7,7,7,7,7,7,7,7,7,7,7,7,7,7,7,7,7,7,7,7,7,7,7,7,7,7,7,7,7,7,7,7,7,7,7,7,7,7,7,7,7,7,7,7,7,8,8,8,8,8,8,8,8,8,8,8,8,8,8,8,8,8,8,8,8,8,8,8,8,8,8,8,8,8,8,8,8,8,8,8,8,8,8,8,8,8,8,8,8,8,8,8,8,8,8,8,8,8,8,8,8,8,8,8,8,8,8,8,8,8,8,8,8,8,8,8,8,8,8,8,8,8,8,8,8,8,8,8,8,8,8,8,8,8,8,8,8,8,8,8,8,8,8,8,8,8,8,8,8,8,8,8,8,8,8,8,8,8,8,8,8,8,8,8,8,8,8,8,8,8,8,8,8]) (IntKind.wrap .u8 (y2.1.fdiv (2^ (min (8:Int).toNat (IntKind.bits .u64)))))).bind fun v1=>some (w64 ((w64 (y2.2+8))+ (w64 v1)))) ((C87 (ByteArray.mk #[0,1,2,2,3,3,3,3,4,4,4,4,4,4,4,4,5,5,5,5,5,5,5,5,5,5,5,5,5,5,5,5,6,6,6,6,6,6,6,6,6,6,6,6,6,6,6,6,6,6,6,6,6,6,6,6,6,6,6,6,6,6,6,6,7,7,7,7,7,7,7,7,7,7,7,7,7,7,7,7,7,7,7,7,7,7,7,7,7,7,7,7,7,7,7,7,7,7,7,7,7,7,7,7,7,7,7,7,7,7,7,7,7,7,7,7,7,7,7,7,7,7,7,7,7,7,7,7,8,8,8,8,8,8,8,8,8,8,8,8,8,8,8,8,8,8,8,8,8,8,8,8,8,8,8,8,8,8,8,8,8,8,8,8,8,8,8,8,8,8,8,8,8,8,8,8,8,8,8,8,8,8,8,8,8,8,8,8,8,8,8,8,8,8,8,8,8,8,8,8,8,8,8,8,8,8,8,8,8,8,8,8,8,8,8,8,8,8,8,8,8,8,8,8,8,8,8,8,8,8,8,8,8,8,8,8,8,8,8,8,8,8,8,8,8,8,8,8,8,8,8,8,8,8,8,8]) (IntKind.wrap .u8 y2.1)).bind fun v2=>some (w64 (y2.2+ (w64 v2))))
instance math_bits_Len64_le (p1:Int):Le (A6n p1) (A2j p1):=by unfold A6n A2j;repeat' first|infer_instance|with_reducible refine Le.bind (h:= ?_) (hf:=fun _=> ?_)|with_reducible refine Le.cond (h:= ?_) (h':= ?_)|with_reducible refine Le.thenS (h:= ?_) (hf:=fun _=> ?_) (hg:=fun _=> ?_)
def A5s (p1:Int):Option Int:=
  (A6n p1).bind fun v1=>some v1
instance math_bits_Len_le (p1:Int):Le (A5s p1) (A2w p1):=by unfold A5s A2w;infer_instance
def A86 (p1:Int)(p2:Int):Option Bool:=
  (A06 p1).bind fun v1=>((cond v1 (A06 p2) (some default))).bind fun v2=>some ((v1&& (!v2))||(decide (p1<p2)))
instance cmp_Less_int64_le (p1:Int)(p2:Int):Le (A86 p1 p2) (A3p p1 p2):=by unfold A86 A3p;infer_instance
def R1 (p2:Int)(x2:(Int× (List Int))):Option (Stp (Int× (List Int)) (List Int)):=
  ((cond (decide (x2.1>p2)) (G3 x2.2 x2.1) (some default))).bind fun v1=>((cond (decide (x2.1>p2)) (G3 x2.2 (w64 (x2.1 - 1))) (some default))).bind fun v2=>((cond (decide (x2.1>p2)) (A86 v1 v2) (some default))).bind fun v3=>cond ((decide (x2.1>p2))&&v3) ((G3 x2.2 (w64 (x2.1 - 1))).bind fun v4=>(G3 x2.2 x2.1).bind fun v5=>(G3 x2.2 x2.1).bind fun v6=>(G3 (B7g x2.2 x2.1 v4) (w64 (x2.1 - 1))).bind fun v7=>some (.go ((w64 (x2.1 - 1)),(B7g (B7g x2.2 x2.1 v4) (w64 (x2.1 - 1)) v5)))) (some (.out x2.2))
instance slices_insertionSortOrdered_int64_a_l2_le (p2:Int)(x2:(Int× (List Int))):Le (R1 p2 x2) (J5 p2 x2):=by unfold R1 J5;repeat' first|infer_instance|with_reducible refine Le.bind (h:= ?_) (hf:=fun _=> ?_)|with_reducible refine Le.cond (h:= ?_) (h':= ?_)|with_reducible refine Le.thenS (h:= ?_) (hf:=fun _=> ?_) (hg:=fun _=> ?_)
def R2 (p2:Int)(p3:Int)(x1:(Int× (List Int))):Option (Stp (Int× (List Int)) (List Int)):=
  cond (decide (x1.1<p3)) ((R0 (R1 p2) (x1.1,x1.2)).bind fun y1=>some (.go ((w64 (x1.1+1)),y1))) (some (.out (x1.2)))
instance slices_insertionSortOrdered_int64_a_l1_le (p2:Int)(p3:Int)(x1:(Int× (List Int))):Le (R2 p2 p3 x1) (J6 p2 p3 x1):=by unfold R2 J6;infer_instance
def S7 (p1:(List Int))(p2:Int)(p3:Int):Option (List Int):=
  R0 (R2 p2 p3) ((w64 (p2+1)),p1)
instance slices_insertionSortOrdered_int64_a_le (p1:(List Int))(p2:Int)(p3:Int):Le (S7 p1 p2 p3) (L5 p1 p2 p3):=by unfold S7 L5;infer_instance
def U0 (p1:(List Int))(x1:(Int×Int×Int×Bool×Bool)):Option (Stp (Int×Int×Int×Bool×Bool) (List Int)):=
  cond (decide ((w64 (x1.2.1 - x1.1))≤12)) ((S7 p1 x1.1 x1.2.1).bind fun v1=>some (.out (v1))) (cond (x1.2.2.1==0) (none) ((cond (!x1.2.2.2.1) (none) (some ())).bind fun _=>none))
instance slices_pdqsortOrdered_int64_a_l1_le (p1:(List Int))(x1:(Int×Int×Int×Bool×Bool)):Le (U0 p1 x1) (N5 p1 x1):=by unfold U0 N5;infer_instance
def W0 (p1:(List Int))(p2:Int)(p3:Int)(p4:Int):Option (List Int):=
  R0 (U0 p1) (p2,p3,p4,true,true)
instance slices_pdqsortOrdered_int64_a_le (p1:(List Int))(p2:Int)(p3:Int)(p4:Int):Le (W0 p1 p2 p3 p4) (P8 p1 p2 p3 p4):=by unfold W0 P8;infer_instance
def A00 (p1:(List Int)):Option (List Int):=
  (A5s (IntKind.wrap .u64 (p1.length:Int))).bind fun v1=>(W0 p1 0 (p1.length:Int) v1).bind fun v2=>some v2
instance slices_Sort_int64_int64_a_le (p1:(List Int)):Le (A00 p1) (S5 p1):=by unfold A00 S5;infer_instance
def R3 (p1:Int)(x2:Int):Option (Stp Int Unit):=
  ((cond (decide (x2>p1)) ((none:Option Unit)) (some default))).bind fun v1=>cond ((decide (x2>p1))&&false) (none) (some (.out ()))
instance slices_insertionSortOrdered_int64_n_l2_le (p1:Int)(x2:Int):Le (R3 p1 x2) (J7 p1 x2):=by unfold R3 J7;infer_instance
def R4 (p1:Int)(p2:Int)(x1:Int):Option (Stp Int Unit):=
  cond (decide (x1<p2)) ((R0 (R3 p1) x1).bind fun _=>some (.go (w64 (x1+1)))) (some (.out (())))
instance slices_insertionSortOrdered_int64_n_l1_le (p1:Int)(p2:Int)(x1:Int):Le (R4 p1 p2 x1) (J8 p1 p2 x1):=by unfold R4 J8;infer_instance
def S8 (p1:Int)(p2:Int):Option Unit:=
  R0 (R4 p1 p2) (w64 (p1+1))
instance slices_insertionSortOrdered_int64_n_le (p1:Int)(p2:Int):Le (S8 p1 p2) (L6 p1 p2):=by unfold S8 L6;infer_instance
def U1 (x1:(Int×Int×Int×Bool×Bool)):Option (Stp (Int×Int×Int×Bool×Bool) Unit):=
  cond (decide ((w64 (x1.2.1 - x1.1))≤12)) ((S8 x1.1 x1.2.1).bind fun v1=>some (.out (()))) (cond (x1.2.2.1==0) (none) ((cond (!x1.2.2.2.1) (none) (some ())).bind fun _=>none))
instance slices_pdqsortOrdered_int64_n_l1_le (x1:(Int×Int×Int×Bool×Bool)):Le (U1 x1) (N6 x1):=by unfold U1 N6;infer_instance
def W1 (p1:Int)(p2:Int)(p3:Int):Option Unit:=
  R0 (U1) (p1,p2,p3,true,true)
instance slices_pdqsortOrdered_int64_n_le (p1:Int)(p2:Int)(p3:Int):Le (W1 p1 p2 p3) (P9 p1 p2 p3):=by unfold W1 P9;infer_instance
def A01:Option Unit:=
  (A5s (IntKind.wrap .u64 0)).bind fun v1=>(W1 0 0 v1).bind fun v2=>some ()
instance slices_Sort_int64_int64_n_le:Le (A01) (S6):=by unfold A01 S6;infer_instance
def B0i (p1:Map)(p2:Int)(p3:Int)(v1:Zone)(x2:((List Int)×Int)):Option (Stp ((List Int)×Int) (List Int)):=
  cond (decide (x2.2< (v1.Parts.length:Int))) ((G3 v1.Parts x2.2).bind fun v2=>((cond (v2.Lane_==p2) (G3 p1.Signals (w64 (v1.Signal_ - 1))) (some default))).bind fun v3=>((cond (v2.Lane_==p2) (A8i v3 p2 p3) (some default))).bind fun v4=>cond ((v2.Lane_==p2)&& (!v4)) ((A9r x2.1 [v2.From]).bind fun v5=>some (.go (v5,(w64 (x2.2+1))))) (some (.go (x2.1,(w64 (x2.2+1)))))) (some (.out x2.1))
instance signs_Red_l2_le (p1:Map)(p2:Int)(p3:Int)(v1:Zone)(x2:((List Int)×Int)):Le (B0i p1 p2 p3 v1 x2) (A63 p1 p2 p3 v1 x2):=by unfold B0i A63;repeat' first|infer_instance|with_reducible refine Le.bind (h:= ?_) (hf:=fun _=> ?_)|with_reducible refine Le.cond (h:= ?_) (h':= ?_)|with_reducible refine Le.thenS (h:= ?_) (hf:=fun _=> ?_) (hg:=fun _=> ?_)
def B0j (p1:Map)(p2:Int)(p3:Int)(x1:((List Int)×Int)):Option (Stp ((List Int)×Int) (List Int)):=
  cond (decide (x1.2< (p1.Zones.length:Int))) ((G3 p1.Zones x1.2).bind fun v1=>cond (v1.Signal_==0) (some (.go (x1.1,(w64 (x1.2+1))))) ((R0 (B0i p1 p2 p3 v1) (x1.1,0)).bind fun y2=>some (.go (y2,(w64 (x1.2+1)))))) (some (.out x1.1))
instance signs_Red_l1_le (p1:Map)(p2:Int)(p3:Int)(x1:((List Int)×Int)):Le (B0j p1 p2 p3 x1) (A64 p1 p2 p3 x1):=by unfold B0j A64;infer_instance
def B40 (p1:Map)(p2:Int)(p3:Int):Option (List Int):=
  (R0 (B0j p1 p2 p3) ([],0)).bind fun y1=>cond (List.isEmpty y1) ((A01).bind fun v8=>some []) ((A00 y1).bind fun v6=>(B4y v6).bind fun v7=>some v7)
instance signs_Red_le (p1:Map)(p2:Int)(p3:Int):Le (B40 p1 p2 p3) (B14 p1 p2 p3):=by unfold B40 B14;infer_instance
def B41 (p1:Map)(p2:Int)(p3:Int):Option (List Int):=
  ((cond (!(decide (p3<0))) (B1b p1 p2) (some default))).bind fun v1=>cond ((decide (p3<0))||(!v1)) (some []) ((B40 p1 p2 p3).bind fun v2=>some v2)
instance roads_Red_le (p1:Map)(p2:Int)(p3:Int):Le (B41 p1 p2 p3) (B15 p1 p2 p3):=by unfold B41 B15;infer_instance
def A34 (p1:Int)(p2:Agent)(p3:Int):Option Int:=
  some (mm2 true 0 (mm2 false (w64 (p2.V+p1)) p3))
instance world_move_1_b_b_le (p1:Int)(p2:Agent)(p3:Int):Le (A34 p1 p2 p3) (A04 p1 p2 p3):=by unfold A34 A04;infer_instance
def A87 (p1:Int)(p2:Int):Option Int:=
  cond ((decide (p1<1))||(decide (p2<1))) (some 0) ((C8u .i64 (w64 ((mm2 false p1 1000000) - 1)) (mm2 false p2 1000000)).bind fun v1=>some (w64 ((w64 (v1* (mm2 false p1 1000000))) - (w64 ((mm2 false p2 1000000)* (w64 ((w64 (v1* (w64 (v1+1)))).tdiv 2)))))))
instance world_Stop_le (p1:Int)(p2:Int):Le (A87 p1 p2) (A5j p1 p2):=by unfold A87 A5j;infer_instance
def A1t (p1:Int)(p2:Int)(p3:Int)(p4:Int)(p5:Int):Option Bool:=
  ((cond (decide (p1>p2)) (A87 p3 p4) (some default))).bind fun v1=>((cond ((decide (p1>p2))&& (decide ((w64 (p2+v1))<p1))) (A87 p5 p4) (some default))).bind fun v2=>some (((decide (p1>p2))&& (decide ((w64 (p2+v1))<p1)))&& (decide ((w64 ((w64 (p2+p5))+v2))≥p1)))
instance world_keeps_1_b_b_b_b_le (p1:Int)(p2:Int)(p3:Int)(p4:Int)(p5:Int):Le (A1t p1 p2 p3 p4 p5) (V9 p1 p2 p3 p4 p5):=by unfold A1t V9;infer_instance
def M4 (p1:(List Int))(p2:Int)(p3:Int)(p4:Int)(p5:Int)(x1:Int):Option (Stp Int (Sum Unit Int)):=
  cond (decide (x1< (p1.length:Int))) ((G3 p1 x1).bind fun v1=>(A1t v1 p2 p3 p4 p5).bind fun v2=>cond v2 (some (.out (.inr x1))) (some (.go (w64 (x1+1))))) (some (.out (.inl ())))
instance slices_IndexFunc_int64_int64_world_keeps_1bbbb_l1_le (p1:(List Int))(p2:Int)(p3:Int)(p4:Int)(p5:Int)(x1:Int):Le (M4 p1 p2 p3 p4 p5 x1) (E5 p1 p2 p3 p4 p5 x1):=by unfold M4 E5;infer_instance
def N4 (p1:(List Int))(p2:Int)(p3:Int)(p4:Int)(p5:Int):Option Int:=
  thenS (R0 (M4 p1 p2 p3 p4 p5) 0) (fun _=>some (-1)) (fun r=>some r)
instance slices_IndexFunc_int64_int64_world_keeps_1bbbb_le (p1:(List Int))(p2:Int)(p3:Int)(p4:Int)(p5:Int):Le (N4 p1 p2 p3 p4 p5) (F6 p1 p2 p3 p4 p5):=by unfold N4 F6;infer_instance
def M5 (p1:(List Int))(p2:Int)(p3:Int)(p4:Int)(p5:Int):Option Bool:=
  (N4 p1 p2 p3 p4 p5).bind fun v1=>some (decide (v1≥0))
instance slices_ContainsFunc_int64_int64_world_keeps_1bbbb_le (p1:(List Int))(p2:Int)(p3:Int)(p4:Int)(p5:Int):Le (M5 p1 p2 p3 p4 p5) (E6 p1 p2 p3 p4 p5):=by unfold M5 E6;infer_instance
def B1d (p1:(List Int))(p2:Int)(p3:Int)(p4:Int)(p5:Int):Option Bool:=
  (M5 p1 p2 p3 p5 p4).bind fun v1=>some (!v1)
instance world_keeps_le (p1:(List Int))(p2:Int)(p3:Int)(p4:Int)(p5:Int):Le (B1d p1 p2 p3 p4 p5) (A7r p1 p2 p3 p4 p5):=by unfold B1d A7r;infer_instance
def A8w (p2:Agent)(v1:(Int×Int))(v3:(Int×Int×Int))(v5:(List Int))(x1:Int):Option (Stp Int Int):=
  ((cond (decide (x1>(w64 (0 - v3.2.2)))) (A34 x1 p2 v3.1) (some default))).bind fun v6=>((cond (decide (x1>(w64 (0 - v3.2.2)))) (B1d v5 v1.2 p2.V v6 v3.2.2) (some default))).bind fun v7=>cond ((decide (x1>(w64 (0 - v3.2.2))))&& (!v7)) (some (.go (w64 (x1 - 1)))) (some (.out x1))
instance world_move_l1_le (p2:Agent)(v1:(Int×Int))(v3:(Int×Int×Int))(v5:(List Int))(x1:Int):Le (A8w p2 v1 v3 v5 x1) (A4t p2 v1 v3 v5 x1):=by unfold A8w A4t;repeat' first|infer_instance|with_reducible refine Le.bind (h:= ?_) (hf:=fun _=> ?_)|with_reducible refine Le.cond (h:= ?_) (h':= ?_)|with_reducible refine Le.thenS (h:= ?_) (hf:=fun _=> ?_) (hg:=fun _=> ?_)
def B2l (p1:Map)(p2:Agent)(p3:Int)(p4:Int):Option Agent:=
  (B0a p1 p2).bind fun v1=>(G3 p1.Lanes v1.1).bind fun v2=>(A30 v2.Kind).bind fun v3=>((cond p2.Obey (A55 p1 v1.1) (some default))).bind fun v4=>(cond (p2.Obey&& (decide (v1.2≤v4))) ((B41 p1 v1.1 p3).bind fun v5=>(R0 (A8w p2 v1 v3 v5) (mm2 true (w64 (0 - v3.2.2)) (mm2 false p4 v3.2.1))).bind fun y2=>some y2) (some (mm2 true (w64 (0 - v3.2.2)) (mm2 false p4 v3.2.1)))).bind fun y1=>(A34 y1 p2 v3.1).bind fun v8=>(B0b p1 (Agent.mk p2.Route (w64 (p2.S+v8)) v8 p2.Len p2.Begin p2.Obey p2.Gone)).bind fun v9=>some (Agent.mk p2.Route (w64 (p2.S+v8)) v8 p2.Len p2.Begin p2.Obey v9)
instance world_move_le (p1:Map)(p2:Agent)(p3:Int)(p4:Int):Le (B2l p1 p2 p3 p4) (A9l p1 p2 p3 p4):=by unfold B2l A9l;repeat' first|infer_instance|with_reducible refine Le.bind (h:= ?_) (hf:=fun _=> ?_)|with_reducible refine Le.cond (h:= ?_) (h':= ?_)|with_reducible refine Le.thenS (h:= ?_) (hf:=fun _=> ?_) (hg:=fun _=> ?_)
def B2m (p1:Map)(p2:State)(p3:Int)(p4:Int):Option Agent:=
  cond ((decide (p3<0))||(decide (p3≥(p2.Agents.length:Int)))) (some (Agent.mk [] 0 0 0 0 false false)) ((G3 p2.Agents p3).bind fun v1=>(A2l v1).bind fun v2=>(A49 p2 p3).bind fun v3=>((cond (!(!v3)) (A68 p1 p2) (some default))).bind fun v4=>cond ((!v3)||(v4 !=0)) (some v2) ((B2l p1 v2 p2.Tick p4).bind fun v5=>some v5))
instance world_Move_le (p1:Map)(p2:State)(p3:Int)(p4:Int):Le (B2m p1 p2 p3 p4) (A9m p1 p2 p3 p4):=by unfold B2m A9m;repeat' first|infer_instance|with_reducible refine Le.bind (h:= ?_) (hf:=fun _=> ?_)|with_reducible refine Le.cond (h:= ?_) (h':= ?_)|with_reducible refine Le.thenS (h:= ?_) (hf:=fun _=> ?_) (hg:=fun _=> ?_)
def A5m (p1:State)(x1:(Int×State)):Option (Stp (Int×State) State):=
  cond (decide (x1.1< (p1.Agents.length:Int))) ((G3 p1.Agents x1.1).bind fun v2=>(A2l v2).bind fun v3=>(A9r x1.2.Agents [v3]).bind fun v4=>some (.go ((w64 (x1.1+1)),(State.mk x1.2.Tick v4 x1.2.In)))) (some (.out x1.2))
instance world_Copy_me_l1_le (p1:State)(x1:(Int×State)):Le (A5m p1 x1) (A1k p1 x1):=by unfold A5m A1k;infer_instance
def A8x (p1:State):Option State:=
  (X6 p1.In).bind fun v1=>(R0 (A5m p1) (0,(State.mk p1.Tick [] v1))).bind fun y1=>some y1
instance world_Copy_me_le (p1:State):Le (A8x p1) (A4u p1):=by unfold A8x A4u;infer_instance
def A0m (p1:WorldScene)(p2:Int)(p3:Int):Option (Int×Bool):=
  (G3 p1.before.Agents p2).bind fun v1=>(A0e v1.Route p3).bind fun v2=>cond (decide (v2<0)) (some (0,false)) ((A53 p1.m v1.Route).bind fun v3=>(G3 v3 v2).bind fun v4=>some (v4,true))
instance world_scene_start_b_le (p1:WorldScene)(p2:Int)(p3:Int):Le (A0m p1 p2 p3) (U9 p1 p2 p3):=by unfold A0m U9;infer_instance
def A1h (p1:WorldScene)(p2:Int)(p3:Int):Option Stay:=
  (E0 p1.after.In (Stay.mk p2 p3 0 0)).bind fun v1=>(G3 p1.after.In v1.1).bind fun v2=>some v2
instance world_scene_stay_b_le (p1:WorldScene)(p2:Int)(p3:Int):Le (A1h p1 p2 p3) (W4 p1 p2 p3):=by unfold A1h W4;infer_instance
def A88 (p1:Map)(p2:State)(p3:(List Int))(v2:State)(y2:(List Agent))(y5:(List Stay))(a1:(Int×Int))(x6:(Int× (List Crash))):Option (Stp (Int× (List Crash)) (List Crash)):=
  cond (decide (x6.1< (p1.Zones.length:Int))) ((A0l (WorldScene.mk p1 p2 (State.mk v2.Tick y2 y5) p3 x6.2) a1.1 a1.2 x6.1).bind fun v28=>cond (!v28) (some (.go ((w64 (x6.1+1)),x6.2))) ((A1h (WorldScene.mk p1 p2 (State.mk v2.Tick y2 y5) p3 x6.2) a1.1 x6.1).bind fun v29=>(A1h (WorldScene.mk p1 p2 (State.mk v2.Tick y2 y5) p3 x6.2) a1.2 x6.1).bind fun v30=>(A05 v29.Rank v30.Rank).bind fun v31=>(A22 v30.Since v29.Since).bind fun v32=>(A7w [v31,v32]).bind fun v33=>(cond (v33==(-1)) (some [a1.1]) (cond (v33==1) (some [a1.2]) (some [a1.1,a1.2]))).bind fun y17=>(A9r x6.2 [(Crash.mk p2.Tick a1.1 a1.2 (-1) x6.1 y17)]).bind fun v34=>some (.go ((w64 (x6.1+1)),v34)))) (some (.out x6.2))
instance world_Step_l12_le (p1:Map)(p2:State)(p3:(List Int))(v2:State)(y2:(List Agent))(y5:(List Stay))(a1:(Int×Int))(x6:(Int× (List Crash))):Le (A88 p1 p2 p3 v2 y2 y5 a1 x6) (A3q p1 p2 p3 v2 y2 y5 a1 x6):=by unfold A88 A3q;repeat' first|infer_instance|with_reducible refine Le.bind (h:= ?_) (hf:=fun _=> ?_)|with_reducible refine Le.cond (h:= ?_) (h':= ?_)|with_reducible refine Le.thenS (h:= ?_) (hf:=fun _=> ?_) (hg:=fun _=> ?_)
def A89 (p1:Map)(p2:State)(p3:(List Int))(v2:State)(y2:(List Agent))(y5:(List Stay))(a1:(Int×Int))(y12:(List Crash)):Option (List Crash):=
  (R0 (A88 p1 p2 p3 v2 y2 y5 a1) (0,y12)).bind fun y16=>some y16
instance world_Step_i11_le (p1:Map)(p2:State)(p3:(List Int))(v2:State)(y2:(List Agent))(y5:(List Stay))(a1:(Int×Int))(y12:(List Crash)):Le (A89 p1 p2 p3 v2 y2 y5 a1 y12) (A5q p1 p2 p3 v2 y2 y5 a1 y12):=by unfold A89 A5q;infer_instance
def A8a (p1:Map)(p2:State)(p3:(List Int))(v2:State)(y2:(List Agent))(y5:(List Stay))(x4:(List Crash))(a1:(Int×Int))(x5:Int):Option (Stp Int (Sum Unit (List Crash))):=
  cond (decide (x5< (p1.Lanes.length:Int))) ((A0m (WorldScene.mk p1 p2 (State.mk v2.Tick y2 y5) p3 x4) a1.1 x5).bind fun v13=>(A0m (WorldScene.mk p1 p2 (State.mk v2.Tick y2 y5) p3 x4) a1.2 x5).bind fun v14=>cond ((!v13.2)||(!v14.2)) (some (.go (w64 (x5+1)))) ((G3 p2.Agents a1.1).bind fun v15=>(G3 p2.Agents a1.2).bind fun v16=>(cond (decide ((w64 (v15.S - v13.1))< (w64 (v16.S - v14.1)))) (some (v14.1,v13.1,a1.2,a1.1)) (some (v13.1,v14.1,a1.1,a1.2))).bind fun y14=>(G3 y2 y14.2.2.1).bind fun v17=>(A2r v17).bind fun v18=>(A07 v18 y14.1).bind fun v19=>(G3 y2 y14.2.2.2).bind fun v20=>(A2r v20).bind fun v21=>(A07 v21 y14.2.1).bind fun v22=>(G3 p2.Agents y14.2.2.2).bind fun v23=>(A2r v23).bind fun v24=>(A07 v24 y14.2.1).bind fun v25=>(A55 p1 x5).bind fun v26=>cond (((((decide (v19.to≥0))&& (decide (v22.to≥0)))&& (decide (v25.from_≤v26)))&& (decide (v19.from_≤v26)))&& (decide (v22.to≥v19.from_))) ((A9r x4 [(Crash.mk p2.Tick a1.1 a1.2 x5 (-1) [y14.2.2.2])]).bind fun v27=>some (.out (.inr v27))) (some (.go (w64 (x5+1)))))) (some (.out (.inl ())))
instance world_Step_l10_le (p1:Map)(p2:State)(p3:(List Int))(v2:State)(y2:(List Agent))(y5:(List Stay))(x4:(List Crash))(a1:(Int×Int))(x5:Int):Le (A8a p1 p2 p3 v2 y2 y5 x4 a1 x5) (A3r p1 p2 p3 v2 y2 y5 x4 a1 x5):=by unfold A8a A3r;repeat' first|infer_instance|with_reducible refine Le.bind (h:= ?_) (hf:=fun _=> ?_)|with_reducible refine Le.cond (h:= ?_) (h':= ?_)|with_reducible refine Le.thenS (h:= ?_) (hf:=fun _=> ?_) (hg:=fun _=> ?_)
def A8y (p1:Map)(p2:State)(p3:(List Int))(v2:State)(y2:(List Agent))(y5:(List Stay))(x4:(List Crash))(a1:(Int×Int)):Option (List Crash):=
  thenS (R0 (A8a p1 p2 p3 v2 y2 y5 x4 a1) 0) (fun _=>some x4) (fun r=>some r)
instance world_Step_i9_le (p1:Map)(p2:State)(p3:(List Int))(v2:State)(y2:(List Agent))(y5:(List Stay))(x4:(List Crash))(a1:(Int×Int)):Le (A8y p1 p2 p3 v2 y2 y5 x4 a1) (A6u p1 p2 p3 v2 y2 y5 x4 a1):=by unfold A8y A6u;infer_instance
def A8z (p1:Map)(p2:State)(p3:(List Int))(v2:State)(y2:(List Agent))(y5:(List Stay))(x4:(List Crash))(a1:(Int×Int)):Option (Stp (List Crash) (List Crash)):=
  (A8y p1 p2 p3 v2 y2 y5 x4 a1).bind fun y12=>(A89 p1 p2 p3 v2 y2 y5 a1 y12).bind fun y15=>some (.go y15)
instance world_Step_l8_le (p1:Map)(p2:State)(p3:(List Int))(v2:State)(y2:(List Agent))(y5:(List Stay))(x4:(List Crash))(a1:(Int×Int)):Le (A8z p1 p2 p3 v2 y2 y5 x4 a1) (A4v p1 p2 p3 v2 y2 y5 x4 a1):=by unfold A8z A4v;infer_instance
def A90:Option Unit:=
  some ()
instance world_Step_i7_le:Le (A90) (A6v):=by unfold A90 A6v;infer_instance
def A91 (p1:Map)(p2:State)(p3:(List Int))(v2:State)(y2:(List Agent))(y5:(List Stay)):Option (List Crash):=
  (A90).bind fun y10=>((B7y p2).bind fun v12=>loopL (A8z p1 p2 p3 v2 y2 y5) (fun (x4:(List Crash))=>x4) v12 []).bind fun y11=>some y11
instance world_Step_i6_le (p1:Map)(p2:State)(p3:(List Int))(v2:State)(y2:(List Agent))(y5:(List Stay)):Le (A91 p1 p2 p3 v2 y2 y5) (A6w p1 p2 p3 v2 y2 y5):=by unfold A91 A6w;infer_instance
def A92 (p1:Map)(p2:State)(p3:(List Int))(v2:State)(y2:(List Agent))(x2:(Int× (List Stay)))(v6:Agent)(x3:(Int× (List Stay))):Option (Stp (Int× (List Stay)) (List Stay)):=
  cond (decide (x3.1< (p1.Zones.length:Int))) ((S3 (WorldScene.mk p1 p2 (State.mk v2.Tick y2 x3.2) p3 []) x2.1 x3.1).bind fun v7=>cond (!v7) (some (.go ((w64 (x3.1+1)),x3.2))) ((E0 p2.In (Stay.mk x2.1 x3.1 p2.Tick 0)).bind fun v8=>(cond v8.2 ((G3 p2.In v8.1).bind fun v9=>some v9) ((B0d p1 v6 x3.1 p2.Tick).bind fun v10=>some (Stay.mk x2.1 x3.1 p2.Tick v10))).bind fun y8=>(A9r x3.2 [y8]).bind fun v11=>some (.go ((w64 (x3.1+1)),v11)))) (some (.out x3.2))
instance world_Step_l5_le (p1:Map)(p2:State)(p3:(List Int))(v2:State)(y2:(List Agent))(x2:(Int× (List Stay)))(v6:Agent)(x3:(Int× (List Stay))):Le (A92 p1 p2 p3 v2 y2 x2 v6 x3) (A4w p1 p2 p3 v2 y2 x2 v6 x3):=by unfold A92 A4w;repeat' first|infer_instance|with_reducible refine Le.bind (h:= ?_) (hf:=fun _=> ?_)|with_reducible refine Le.cond (h:= ?_) (h':= ?_)|with_reducible refine Le.thenS (h:= ?_) (hf:=fun _=> ?_) (hg:=fun _=> ?_)
def A93 (p1:Map)(p2:State)(p3:(List Int))(v2:State)(y2:(List Agent))(x2:(Int× (List Stay))):Option (Stp (Int× (List Stay)) (List Stay)):=
  cond (decide (x2.1< (p2.Agents.length:Int))) ((G3 p2.Agents x2.1).bind fun v6=>(R0 (A92 p1 p2 p3 v2 y2 x2 v6) (0,x2.2)).bind fun y7=>some (.go ((w64 (x2.1+1)),y7))) (some (.out x2.2))
instance world_Step_l4_le (p1:Map)(p2:State)(p3:(List Int))(v2:State)(y2:(List Agent))(x2:(Int× (List Stay))):Le (A93 p1 p2 p3 v2 y2 x2) (A4x p1 p2 p3 v2 y2 x2):=by unfold A93 A4x;infer_instance
def A94 (p1:Map)(p2:State)(p3:(List Int))(v2:State)(y2:(List Agent)):Option (List Stay):=
  (R0 (A93 p1 p2 p3 v2 y2) (0,[])).bind fun y6=>some y6
instance world_Step_i3_le (p1:Map)(p2:State)(p3:(List Int))(v2:State)(y2:(List Agent)):Le (A94 p1 p2 p3 v2 y2) (A6x p1 p2 p3 v2 y2):=by unfold A94 A6x;infer_instance
def A95 (p1:Map)(p2:State)(p3:(List Int))(x1:(Int× (List Agent))):Option (Stp (Int× (List Agent)) (List Agent)):=
  cond (decide (x1.1< (p2.Agents.length:Int))) ((cond (decide (x1.1< (p3.length:Int))) ((G3 p3 x1.1).bind fun v3=>some v3) (some 0)).bind fun y4=>(B2m p1 p2 x1.1 y4).bind fun v4=>(G3 x1.2 x1.1).bind fun v5=>some (.go ((w64 (x1.1+1)),(B7g x1.2 x1.1 v4)))) (some (.out x1.2))
instance world_Step_l2_le (p1:Map)(p2:State)(p3:(List Int))(x1:(Int× (List Agent))):Le (A95 p1 p2 p3 x1) (A4y p1 p2 p3 x1):=by unfold A95 A4y;repeat' first|infer_instance|with_reducible refine Le.bind (h:= ?_) (hf:=fun _=> ?_)|with_reducible refine Le.cond (h:= ?_) (h':= ?_)|with_reducible refine Le.thenS (h:= ?_) (hf:=fun _=> ?_) (hg:=fun _=> ?_)
def A96 (p1:Map)(p2:State)(p3:(List Int))(v2:State):Option (List Agent):=
  (R0 (A95 p1 p2 p3) (0,v2.Agents)).bind fun y3=>some y3
instance world_Step_i1_le (p1:Map)(p2:State)(p3:(List Int))(v2:State):Le (A96 p1 p2 p3 v2) (A6y p1 p2 p3 v2):=by unfold A96 A6y;infer_instance
def B2n (p1:Map)(p2:State)(p3:(List Int)):Option (State× (List Crash)×Int):=
  (A68 p1 p2).bind fun v1=>cond (v1 !=0) (some ((State.mk 0 [] []),[],v1)) (cond (decide (p2.Tick≥1099511627776)) (some ((State.mk 0 [] []),[],2)) ((A8x p2).bind fun v2=>((A96 p1 p2 p3 v2).bind fun y2=>(A94 p1 p2 p3 v2 y2).bind fun y5=>(A91 p1 p2 p3 v2 y2 y5).bind fun y9=>some (y2,y5,y9)).bind fun y1=>some ((State.mk (w64 (v2.Tick+1)) y1.1 y1.2.1),y1.2.2,0)))
instance world_Step_le (p1:Map)(p2:State)(p3:(List Int)):Le (B2n p1 p2 p3) (A9n p1 p2 p3):=by unfold B2n A9n;repeat' first|infer_instance|with_reducible refine Le.bind (h:= ?_) (hf:=fun _=> ?_)|with_reducible refine Le.cond (h:= ?_) (h':= ?_)|with_reducible refine Le.thenS (h:= ?_) (hf:=fun _=> ?_) (hg:=fun _=> ?_)
def B4a:Option Bool:=
  (B3y).bind fun v1=>(A8g 0 10000 1000).bind fun v2=>(A8g 1 46000 1000).bind fun v3=>(B3z v1 [v2,v3]).bind fun v4=>cond (((v4.2 !=0)||((v4.1.In.length:Int) !=0))||((v4.1.Agents.length:Int) !=2)) (some false) ((B2n v1 v4.1 [50,(-90)]).bind fun v5=>((cond (((v5.2.2==0)&& ((v5.2.1.length:Int)==0))&& ((v5.1.Agents.length:Int)==2)) (G3 v5.1.Agents 0) (some default))).bind fun v6=>((cond ((((v5.2.2==0)&& ((v5.2.1.length:Int)==0))&& ((v5.1.Agents.length:Int)==2))&& (v6.S==11030)) (G3 v5.1.Agents 1) (some default))).bind fun v7=>((cond (((((v5.2.2==0)&& ((v5.2.1.length:Int)==0))&& ((v5.1.Agents.length:Int)==2))&& (v6.S==11030))&& (v7.V==910)) (A87 100 30) (some default))).bind fun v8=>some ((((((v5.2.2==0)&& ((v5.2.1.length:Int)==0))&& ((v5.1.Agents.length:Int)==2))&& (v6.S==11030))&& (v7.V==910))&& (v8==120)))
instance law04_awake_le:Le (B4a) (A42):=by unfold B4a A42;repeat' first|infer_instance|with_reducible refine Le.bind (h:= ?_) (hf:=fun _=> ?_)|with_reducible refine Le.cond (h:= ?_) (h':= ?_)|with_reducible refine Le.thenS (h:= ?_) (hf:=fun _=> ?_) (hg:=fun _=> ?_)
end Go.Abs.World
namespace Go.Abs.World
open Go Go.Abs
end Go.Abs.World
namespace Go.Abs.World
open Go Go.Abs
end Go.Abs.World
namespace Go.Abs.World
open Go Go.Abs
end Go.Abs.World
namespace Go.Abs.World
open Go Go.Abs
end Go.Abs.World
namespace Go.Abs.World
open Go Go.Abs
end Go.Abs.World
namespace Go.Abs.World
open Go Go.Abs
/-! ### Loops that look for the first error -/
def B23 {α β:Type}(g:Nat→α→Option β):Nat→List α→Option β
  |_,[]=>none
  |i,a::r=>match g i a with
   |some e=>some e
   |none=>B23 g (i+1) r
def outE {β:Type}:Option β→Sum Unit β
  |some e=> .inr e
  |none=> .inl ()
theorem C44 {α β:Type}(l:List α)(F:Int→Option (Stp Int (Sum Unit β)))(g:Nat→α→Option β)(hF: ∀(i:Nat) a,l[i]? =some a→F (i:Int)=some (match g i a with|some e=> .out (.inr e)|none=> .go ((i+1:Nat):Int)))(h0:F (l.length:Int)=some (.out (.inl ()))):
    loop F 0=some (outE (B23 g 0 l)):=by
  have key: ∀(r:List α) (i:Nat),l.drop i=r→i≤l.length→loop F (i:Int)=some (outE (B23 g i r)):=by
    intro r
    induction r with
    |nil=>
     intro i hi hil
     have:i=l.length:=by have:=List.drop_eq_nil_iff.1 hi;omega
     subst this
     exact C11 h0
    |cons a r ih=>
     intro i hi hil
     have hlt:i<l.length:=by
       rcases Nat.lt_or_ge i l.length with q|q
       ·exact q
       ·rw [List.drop_eq_nil_of_le q]at hi;cases hi
     have ha:l[i]? =some a:=by have:=congrArg (fun z=>z[0]?) hi;simpa using this
     have hr:l.drop (i+1)=r:=by have:=congrArg (fun z=>z.drop 1) hi;simpa using this
     have hs:=hF i a ha
     unfold B23
     cases hg:g i a with
     |some e=>rw [hg]at hs;exact C11 hs
     |none=>rw [hg]at hs;rw [C7p hs];exact ih (i+1) hr (by omega)
  have:=key l 0 rfl (by omega)
  exact this
theorem firstE_none {α β:Type}{g:Nat→α→Option β}: ∀{l:List α} {i:Nat},B23 g i l=none↔∀(j:Nat) a,l[j]? =some a→g (i+j) a=none
  | [],i=>by simp [B23]
  |a::r,i=>by
   unfold B23
   cases h:g i a with
   |some e=>
    constructor
    ·intro h';cases h'
    ·intro h';have:=h' 0 a rfl;rw [Nat.add_zero,h]at this;cases this
   |none=>
    dsimp only
    rw [firstE_none (l:=r)]
    constructor
    ·intro h' j b hj
     cases j with
     |zero=>cases hj;exact h
     |succ j=>have:=h' j b hj;rwa [show i+1+j=i+ (j+1) by omega]at this
    ·intro h' j b hj
     have:=h' (j+1) b hj
     rwa [show i+ (j+1)=i+1+j by omega]at this
/-! ### Numbers -/
end Go.Abs.World
namespace Go.Abs.World
open Go Go.Abs
theorem C5y {α:Type}{l:List α}{i:Nat}{a:α}(h:l[i]? =some a):G3 l (i:Int)=some a:=by
  unfold G3;rw [if_pos (by omega),Int.toNat_natCast];exact h
theorem C9e {α:Type}{l:List α}{i:Nat}{a:α}(h:l[i]? =some a):i<l.length:=(List.getElem?_eq_some_iff.1 h).1
end Go.Abs.World
namespace Go.Abs.World
open Go Go.Abs
/-- The lists of a map are of bearable lengths. -/
structure Bear (m:Map):Prop where
  lanes:m.Lanes.length≤1000000
  pts: ∀l∈m.Lanes,l.Curve_.Pts.length≤1000000∧l.Next.length≤1000000
end Go.Abs.World
namespace Go.Abs.World
open Go Go.Abs
end Go.Abs.World
namespace Go.Abs.World
open Go Go.Abs
end Go.Abs.World
namespace Go.Abs.World
open Go Go.Abs
end Go.Abs.World
namespace Go.Abs.World
open Go Go.Abs
end Go.Abs.World
namespace Go.Abs.World
open Go Go.Abs
end Go.Abs.World
namespace Go.Abs.World
open Go Go.Abs
end Go.Abs.World
namespace Go.Abs.World
open Go Go.Abs
end Go.Abs.World
namespace Go.Abs.World
open Go Go.Abs
structure BearS (m:Map):Prop where
  many:m.Signals.length≤1000000
  phases: ∀s∈m.Signals,s.Phases.length≤1000000∧∀p∈s.Phases,p.Green.length≤1000000
end Go.Abs.World
namespace Go.Abs.World
open Go Go.Abs
end Go.Abs.World
namespace Go.Abs.World
open Go Go.Abs
end Go.Abs.World
/-! Loops over lists, as functions on lists. -/
namespace Go.Abs
open Go
section
variable {α β σ S τ:Type}
end
theorem C9f {i:Nat}{n:Nat}(h:i<n):decide ((i:Int)< (n:Int))=true:=decide_eq_true (by omega)
theorem C82 (n:Nat):decide ((n:Int)< (n:Int))=false:=decide_eq_false (by omega)
theorem C5z {i:Nat}{n:Nat}(h:i<n)(hn:n≤1000000000000):w64 ((i:Int)+1)=((i+1:Nat):Int):=by rw [A4f (by omega)];omega
end Go.Abs
namespace Go.Abs.World
open Go Go.Abs
structure BearZ (m:Map):Prop where
  many:m.Zones.length≤1000000
  parts: ∀z∈m.Zones,z.Parts.length≤1000000
end Go.Abs.World
namespace Go.Abs.World
open Go Go.Abs
structure BearW (m:Map):Prop where
  many:m.Works.length≤1000000
end Go.Abs.World
namespace Go.Abs.World
open Go Go.Abs
/-- All lists of a map are of bearable lengths. -/
structure BearM (m:Map):Prop where
  toBear:Bear m
  toBearS:BearS m
  toBearZ:BearZ m
  toBearW:BearW m
theorem BearM.lanes {m:Map}(B:BearM m):m.Lanes.length≤1000000:=B.toBear.lanes
end Go.Abs.World
namespace Go.Abs.World
open Go Go.Abs
section
variable {m:Map}
end
end Go.Abs.World
namespace Go.Abs.World
open Go Go.Abs
end Go.Abs.World
namespace Go.Abs.World
open Go Go.Abs
end Go.Abs.World
namespace Go.Abs.World
open Go Go.Abs
end Go.Abs.World
namespace Go.Abs.World
open Go Go.Abs
end Go.Abs.World
namespace Go.Abs.World
open Go Go.Abs
theorem C60:A42=some true:=law04_awake_le _ (by decide+kernel)
end Go.Abs.World
namespace Go.Abs.World
open Go Go.Abs
end Go.Abs.World
namespace Go.Abs.World
open Go Go.Abs
theorem B42 (n:Int){m:Int}(hm:0<m):0≤n % m∧n % m<m:=⟨Int.emod_nonneg n (by omega),Int.emod_lt_of_pos n hm⟩
theorem B9b {n m:Int}(hm:0<m):n % m=if n.tmod m<0 then n.tmod m+m else n.tmod m:=by
  have a:=Int.emod_nonneg n (show m≠0 by omega)
  have b:=Int.emod_lt_of_pos n hm
  rw [Int.tmod_eq_emod]
  by_cases q:0≤n∨m ∣ n
  ·rw [if_pos q,if_neg (by omega)];omega
  ·rw [if_neg q]
   have:n % m≠0:=fun e=>q (.inr (Int.dvd_of_emod_eq_zero e))
   rw [if_pos (by omega)];omega
end Go.Abs.World
/-! The way to stop. -/
namespace Go.Abs.World
open Go Go.Abs
end Go.Abs.World
/-! Marks of speed and place; which states are small. -/
namespace Go.Abs.World
open Go Go.Abs
structure SmallS (s:State):Prop where
  agents:s.Agents.length≤10
  ins:s.In.length≤20
  routes: ∀a∈s.Agents,a.Route.length≤10
theorem C61 (s:State): ∃b,A7g s=some b∧(b=true→SmallS s):=by
  unfold A7g
  by_cases h:10<s.Agents.length∨20<s.In.length
  ·rw [show (decide ((s.Agents.length:Int)>10)||decide ((s.In.length:Int)>20))=true by simp only [Bool.or_eq_true,decide_eq_true_eq];omega]
   exact ⟨false,rfl,nofun⟩
  ·rw [show (decide ((s.Agents.length:Int)>10)||decide ((s.In.length:Int)>20))=false by simp only [Bool.or_eq_false_iff,decide_eq_false_iff_not];omega,cond_false]
   have hk:=C44 s.Agents (A1m s) (fun _ a=>if 10<a.Route.length then some false else none) (fun i a ha=>by
     have hi:=C9e ha
     unfold A1m
     rw [C9f hi,C5y ha,cond_true,Option.bind_some]
     by_cases q:10<a.Route.length
     ·rw [if_pos q,decide_eq_true (show (a.Route.length:Int)>10 by omega)];rfl
     ·rw [if_neg q,decide_eq_false (show ¬(a.Route.length:Int)>10 by omega),cond_false,C5z hi (by omega)]) (by unfold A1m;rw [C82];rfl)
   rw [hk]
   cases hf:B23 (fun _ (a:Agent)=>if 10<a.Route.length then some false else none) 0 s.Agents with
   |some b=>
    refine ⟨b,rfl,fun hb=> ?_⟩
    subst hb
    exfalso
    have: ∀(l:List Agent) (i:Nat),B23 (fun _ (a:Agent)=>if 10<a.Route.length then some false else none) i l≠some true:=by
      intro l
      induction l with
      |nil=>intro i h;cases h
      |cons a l ih=>
       intro i h
       unfold B23 at h
       by_cases q:10<a.Route.length
       ·rw [if_pos q]at h;cases h
       ·rw [if_neg q]at h;exact ih _ h
    exact this _ _ hf
   |none=>
    refine ⟨true,rfl,fun _=>⟨by omega,by omega,fun a ha=> ?_⟩⟩
    obtain ⟨j,hj⟩:=List.getElem?_of_mem ha
    have:=firstE_none.1 hf j a hj
    by_cases q:10<a.Route.length
    ·rw [if_pos q]at this;cases this
    ·omega
theorem C6k {n k:Int}(hk:0<k)(hk2:k≤1000000):A9o n k=some (n % k):=by
  have h1:=B9b (n:=n) hk
  have a:=B42 n hk
  have b: -k≤n.tmod k∧n.tmod k<k:=by
    have:=Int.tmod_lt_of_pos n hk
    split at h1<;>omega
  unfold A9o C0y
  rw [if_neg (by omega),Option.bind_some,A4f (by omega),if_neg (by omega),Option.bind_some]
  congr 1
  rw [h1]
  by_cases q:n.tmod k<0
  ·rw [if_pos q,Int.tmod_eq_of_lt (by omega) (by omega)]
  ·rw [if_neg q,Int.tmod_eq_emod_of_nonneg (by omega),Int.add_emod_right]
   exact Int.emod_eq_of_lt (by omega) (by omega)
theorem C45 {n k:Int}(hk:0<k)(hk2:k≤1000000):A9q n k=some (n % k):=by
  have h1:=B9b (n:=n) hk
  have a:=B42 n hk
  unfold A9q C0y
  rw [if_neg (by omega),Option.bind_some]
  by_cases q:n.tmod k<0
  ·rw [if_pos q]at h1
   rw [decide_eq_true q,cond_true,A4f (by omega),← h1]
  ·rw [if_neg q]at h1
   rw [decide_eq_false q,cond_false,← h1]
/-- The vehicle, if it can be measured. -/
def C1e (s:State):Option Agent:=match s.Agents with
  | []=>none
  |a::_=>if 0≤a.V∧a.V≤1099511627776∧0≤a.S∧a.S≤1099511627776 then some a else none
theorem B6y (s:State): ∃a,A2z s=some (a,(C1e s).isSome)∧((C1e s).isSome=true→C1e s=some a):=by
  unfold A2z C1e
  cases s.Agents with
  |nil=>exact ⟨_,rfl,nofun⟩
  |cons a l=>
   rw [show (((a::l).length:Int)==0)=false by simp;omega,cond_false]
   simp only [C7q,C01]
   refine ⟨a,?_,?_⟩
   ·show some (a,_)=_
    congr 2
    by_cases q:0≤a.V∧a.V≤1099511627776∧0≤a.S∧a.S≤1099511627776
    ·rw [if_pos q];simp only [Option.isSome_some,Bool.and_eq_true,decide_eq_true_eq];omega
    ·rw [if_neg q];simp only [Option.isSome_none,Bool.and_eq_false_iff,decide_eq_false_iff_not];omega
   ·split
    ·exact fun _=>rfl
    ·exact nofun
theorem B61 (s:State):A1p s=some (C1e s).isSome:=by
  unfold A1p C1e
  cases s.Agents with
  |nil=>rfl
  |cons a l=>
   rw [show (((a::l).length:Int)==0)=false by simp;omega,cond_false]
   show some _=_
   congr 1
   dsimp only
   by_cases q:0≤a.V∧a.V≤1099511627776∧0≤a.S∧a.S≤1099511627776
   ·rw [if_pos q];simp only [Option.isSome_some,Bool.and_eq_true,decide_eq_true_eq];omega
   ·rw [if_neg q];simp only [Option.isSome_none,Bool.and_eq_false_iff,decide_eq_false_iff_not];omega
def C1f (s:State)(n:Int):Mark:=match C1e s with
  |some a=>⟨s.Tick,max 0 (a.V+n % 7 - 6),a.V+n % 7⟩
  |none=>⟨0,0,0⟩
def C9k (s:State)(n:Int):Mark:=match C1e s with
  |some a=>⟨s.Tick,a.S+n % 401 - 400,a.S+n % 401⟩
  |none=>⟨0,0,0⟩
theorem B7z {s:State}{a:Agent}(h:C1e s=some a):0≤a.V∧a.V≤1099511627776∧0≤a.S∧a.S≤1099511627776∧G3 s.Agents 0=some a:=by
  unfold C1e at h
  split at h
  ·cases h
  ·rename_i x l hl
   split at h
   ·rename_i q
    cases h
    exact ⟨q.1,q.2.1,q.2.2.1,q.2.2.2,by rw [hl];rfl⟩
   ·cases h
theorem C62 (s:State)(n:Int):A7s s n=some (C1f s n):=by
  obtain ⟨a,h1,h2⟩:=B6y s
  unfold A7s C1f
  rw [h1,Option.bind_some]
  cases q:C1e s with
  |none=>rfl
  |some b=>
   have:=h2 (by rw [q];rfl)
   rw [q]at this;cases this
   obtain ⟨b1,b2,b3,b4,_⟩:=B7z q
   have hm:=B42 n (m:=7) (by omega)
   show (cond (!true) _ _)=_
   rw [Bool.not_true,cond_false,C6k (by omega) (by omega),Option.bind_some,C01]
   dsimp only
   rw [A4f (n:=a.V+n % 7) (by omega),A4f (n:=a.V+n % 7 - 3) (by omega),A4f (n:=a.V+n % 7 - 3 - 3) (by omega),A4f (n:=a.V+n % 7 - 3+3) (by omega)]
   congr 2<;>omega
theorem C9g (s:State)(n:Int):B16 s n=some (C9k s n):=by
  obtain ⟨a,h1,h2⟩:=B6y s
  unfold B16 C9k
  rw [h1,Option.bind_some]
  cases q:C1e s with
  |none=>rfl
  |some b=>
   have:=h2 (by rw [q];rfl)
   rw [q]at this;cases this
   obtain ⟨b1,b2,b3,b4,_⟩:=B7z q
   have hm:=B42 n (m:=401) (by omega)
   show (cond (!true) _ _)=_
   rw [Bool.not_true,cond_false,C6k (by omega) (by omega),Option.bind_some]
   dsimp only
   rw [A4f (n:=a.S+n % 401) (by omega),A4f (n:=a.S+n % 401 - 200) (by omega),A4f (n:=a.S+n % 401 - 200 - 200) (by omega),A4f (n:=a.S+n % 401 - 200+200) (by omega)]
   congr 2<;>omega
theorem C46 (s:State)(n:Int):A7t s n=some (C1f s n):=by
  unfold A7t C1f
  rw [B61,Option.bind_some]
  cases q:C1e s with
  |none=>rfl
  |some a=>
   obtain ⟨b1,b2,b3,b4,b5⟩:=B7z q
   have hm:=B42 n (m:=7) (by omega)
   show (cond (!true) _ _)=_
   rw [Bool.not_true,cond_false,b5,Option.bind_some,C45 (by omega) (by omega),Option.bind_some,C01]
   dsimp only
   rw [A4f (n:=a.V+n % 7) (by omega),A4f (n:=a.V+n % 7 - 3) (by omega),A4f (n:=a.V+n % 7 - 3 - 3) (by omega),A4f (n:=a.V+n % 7 - 3+3) (by omega)]
   congr 2<;>omega
theorem C83 (s:State)(n:Int):B17 s n=some (C9k s n):=by
  unfold B17 C9k
  rw [B61,Option.bind_some]
  cases q:C1e s with
  |none=>rfl
  |some a=>
   obtain ⟨b1,b2,b3,b4,b5⟩:=B7z q
   have hm:=B42 n (m:=401) (by omega)
   show (cond (!true) _ _)=_
   rw [Bool.not_true,cond_false,b5,Option.bind_some,C45 (by omega) (by omega),Option.bind_some]
   dsimp only
   rw [A4f (n:=a.S+n % 401) (by omega),A4f (n:=a.S+n % 401 - 200) (by omega),A4f (n:=a.S+n % 401 - 200 - 200) (by omega),A4f (n:=a.S+n % 401 - 200+200) (by omega)]
   congr 2<;>omega
theorem B0s (s:State)(n:Int):A3u s n=some true:=by
  obtain ⟨b,h1,_⟩:=C61 s
  unfold A3u
  rw [h1,Option.bind_some,C60]
  cases b
  ·rfl
  ·rw [C62,C46,C9g,C83]
   simp
end Go.Abs.World
