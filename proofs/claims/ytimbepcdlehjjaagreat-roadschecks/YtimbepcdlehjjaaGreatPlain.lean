/-
  Plain facts on the functions: what they compute, and that the law holds of it.
-/
import Derived.Test.YtimbepcdlehjjaaGreatFns3

set_option maxRecDepth 100000
set_option linter.unusedVariables false
namespace Go.Abs.Roadsz
open Go Go.Abs
def kit_road_l1c (p4 : (List Int)) (x1 : (Int × Lane)) : Option (Stp (Int × Lane) Lane) :=
  cond (decide ((w64 (x1.1 + 1)) < (p4.length : Int))) ((geti p4 x1.1).bind fun v1 => (geti p4 (w64 (x1.1 + 1))).bind fun v2 => (appc x1.2.Curve_.Pts [(Spot.mk v1 v2)]).bind fun v3 => some (.go ((w64 (x1.1 + 2)), (Lane.mk x1.2.Kind (Curve.mk v3) x1.2.Half x1.2.Limit x1.2.Next)))) (some (.out x1.2))
theorem kit_road_l1_le (p4 : (List Int)) (x1 : (Int × Lane)) : Le (kit_road_l1c p4 x1) (kit_road_l1 p4 x1) := by
  unfold kit_road_l1c kit_road_l1
  repeat' first | with_reducible exact Le.refl _ | with_reducible refine Le.bind ?_ fun _ => ?_ | with_reducible refine Le.cond ?_ ?_ | with_reducible refine Le.ite ?_ ?_ | with_reducible refine Le.thenS ?_ (fun _ => ?_) (fun _ => ?_) | with_reducible refine Le.loop (fun _ => ?_) _ | with_reducible refine Le.loopL (fun _ _ => ?_) _ _ | exact Le.refl _
def kit_roadc (p1 : Int) (p2 : Int) (p3 : (List Int)) (p4 : (List Int)) : Option Lane :=
  (loopF (kit_road_l1c p4) (0, (Lane.mk p1 (Curve.mk []) 1500 p2 p3))).bind fun y1 => cond (p1 == 3) (some (Lane.mk y1.Kind y1.Curve_ 500 y1.Limit y1.Next)) (some y1)
theorem kit_road_le (p1 : Int) (p2 : Int) (p3 : (List Int)) (p4 : (List Int)) : Le (kit_roadc p1 p2 p3 p4) (kit_road p1 p2 p3 p4) := by
  unfold kit_roadc kit_road
  repeat' first | with_reducible exact Le.refl _ | with_reducible exact kit_road_l1_le _ _ | with_reducible refine Le.bind ?_ fun _ => ?_ | with_reducible refine Le.cond ?_ ?_ | with_reducible refine Le.ite ?_ ?_ | with_reducible refine Le.thenS ?_ (fun _ => ?_) (fun _ => ?_) | with_reducible refine Le.loop (fun _ => ?_) _ | with_reducible refine Le.loopL (fun _ _ => ?_) _ _ | exact Le.refl _
def kit_Crossc : Option Map :=
  (kit_roadc 1 1500 [] [0, 0, 100000, 0]).bind fun v1 => (kit_roadc 1 1500 [] [50000, (-50000), 50000, 50000]).bind fun v2 => some (Map.mk 0 [v1, v2] [(Zone.mk [(Part.mk 0 48000 52000 1), (Part.mk 1 48000 52000 0)] 0)] [] [])
theorem kit_Cross_le : Le (kit_Crossc) (kit_Cross) := by
  unfold kit_Crossc kit_Cross
  repeat' first | with_reducible exact Le.refl _ | with_reducible exact kit_road_le _ _ _ _ | with_reducible refine Le.bind ?_ fun _ => ?_ | with_reducible refine Le.cond ?_ ?_ | with_reducible refine Le.ite ?_ ?_ | with_reducible refine Le.thenS ?_ (fun _ => ?_) (fun _ => ?_) | with_reducible refine Le.loop (fun _ => ?_) _ | with_reducible refine Le.loopL (fun _ _ => ?_) _ _ | exact Le.refl _
def roads_withinc (p1 : Int) (p2 : Int) (p3 : Int) : Option Bool :=
  some ((decide (p2 ≤ p1)) && (decide (p1 ≤ p3)))
theorem roads_within_le (p1 : Int) (p2 : Int) (p3 : Int) : Le (roads_withinc p1 p2 p3) (roads_within p1 p2 p3) := by
  unfold roads_withinc roads_within
  repeat' first | with_reducible exact Le.refl _ | with_reducible refine Le.bind ?_ fun _ => ?_ | with_reducible refine Le.cond ?_ ?_ | with_reducible refine Le.ite ?_ ?_ | with_reducible refine Le.thenS ?_ (fun _ => ?_) (fun _ => ?_) | with_reducible refine Le.loop (fun _ => ?_) _ | with_reducible refine Le.loopL (fun _ _ => ?_) _ _ | exact Le.refl _
def roads_check_numbersc (p1 : RoadsCheck) : Option Int :=
  (roads_withinc p1.Map_.Version 0 1099511627776).bind fun v1 => cond (!v1) (some 2) (cond ((p1.Map_.Lanes.length : Int) == 0) (some 6) (cond ((((decide ((p1.Map_.Lanes.length : Int) > 12)) || (decide ((p1.Map_.Zones.length : Int) > 12))) || (decide ((p1.Map_.Signals.length : Int) > 4))) || (decide ((p1.Map_.Works.length : Int) > 8))) (some 8) (some 0)))
theorem roads_check_numbers_le (p1 : RoadsCheck) : Le (roads_check_numbersc p1) (roads_check_numbers p1) := by
  unfold roads_check_numbersc roads_check_numbers
  repeat' first | with_reducible exact Le.refl _ | with_reducible exact roads_within_le _ _ _ | with_reducible refine Le.bind ?_ fun _ => ?_ | with_reducible refine Le.cond ?_ ?_ | with_reducible refine Le.ite ?_ ?_ | with_reducible refine Le.thenS ?_ (fun _ => ?_) (fun _ => ?_) | with_reducible refine Le.loop (fun _ => ?_) _ | with_reducible refine Le.loopL (fun _ _ => ?_) _ _ | exact Le.refl _
def roads_Boundsc (p1 : Int) : Option (Int × Int × Int) :=
  cond ((decide (p1 < 0)) || (decide (p1 ≥ 4))) (some (0, 0, 0)) ((geti ([(0, 0, 0), (2000, 30, 90), (1000, 20, 60), (300, 100, 300)] : List (Int × Int × Int)) p1).bind fun v1 => some (v1.1, v1.2.1, v1.2.2))
theorem roads_Bounds_le (p1 : Int) : Le (roads_Boundsc p1) (roads_Bounds p1) := by
  unfold roads_Boundsc roads_Bounds
  repeat' first | with_reducible exact Le.refl _ | with_reducible refine Le.bind ?_ fun _ => ?_ | with_reducible refine Le.cond ?_ ?_ | with_reducible refine Le.ite ?_ ?_ | with_reducible refine Le.thenS ?_ (fun _ => ?_) (fun _ => ?_) | with_reducible refine Le.loop (fun _ => ?_) _ | with_reducible refine Le.loopL (fun _ _ => ?_) _ _ | exact Le.refl _
def curve_fair_l1c (p1 : (List Spot)) (x1 : Int) : Option (Stp Int (Sum Unit Bool)) :=
  cond (decide (x1 < (p1.length : Int))) ((geti p1 x1).bind fun v1 => cond ((decide ((mm2 false v1.X v1.Y) < (-16777216))) || (decide ((mm2 true v1.X v1.Y) > 16777216))) (some (.out (.inr false))) (some (.go (w64 (x1 + 1))))) (some (.out (.inl ())))
theorem curve_fair_l1_le (p1 : (List Spot)) (x1 : Int) : Le (curve_fair_l1c p1 x1) (curve_fair_l1 p1 x1) := by
  unfold curve_fair_l1c curve_fair_l1
  repeat' first | with_reducible exact Le.refl _ | with_reducible refine Le.bind ?_ fun _ => ?_ | with_reducible refine Le.cond ?_ ?_ | with_reducible refine Le.ite ?_ ?_ | with_reducible refine Le.thenS ?_ (fun _ => ?_) (fun _ => ?_) | with_reducible refine Le.loop (fun _ => ?_) _ | with_reducible refine Le.loopL (fun _ _ => ?_) _ _ | exact Le.refl _
def curve_fairc (p1 : (List Spot)) : Option Bool :=
  thenS (loopF (curve_fair_l1c p1) 0) (fun _ => some true) (fun r => some r)
theorem curve_fair_le (p1 : (List Spot)) : Le (curve_fairc p1) (curve_fair p1) := by
  unfold curve_fairc curve_fair
  repeat' first | with_reducible exact Le.refl _ | with_reducible exact curve_fair_l1_le _ _ | with_reducible refine Le.bind ?_ fun _ => ?_ | with_reducible refine Le.cond ?_ ?_ | with_reducible refine Le.ite ?_ ?_ | with_reducible refine Le.thenS ?_ (fun _ => ?_) (fun _ => ?_) | with_reducible refine Le.loop (fun _ => ?_) _ | with_reducible refine Le.loopL (fun _ _ => ?_) _ _ | exact Le.refl _
def curve_fromc (p1 : Spot) (p2 : Spot) : Option CurveVector :=
  some (CurveVector.mk (w64 (p2.X - p1.X)) (w64 (p2.Y - p1.Y)))
theorem curve_from_le (p1 : Spot) (p2 : Spot) : Le (curve_fromc p1 p2) (curve_from p1 p2) := by
  unfold curve_fromc curve_from
  repeat' first | with_reducible exact Le.refl _ | with_reducible refine Le.bind ?_ fun _ => ?_ | with_reducible refine Le.cond ?_ ?_ | with_reducible refine Le.ite ?_ ?_ | with_reducible refine Le.thenS ?_ (fun _ => ?_) (fun _ => ?_) | with_reducible refine Le.loop (fun _ => ?_) _ | with_reducible refine Le.loopL (fun _ _ => ?_) _ _ | exact Le.refl _
def curve_vector_dotc (p1 : CurveVector) (p2 : CurveVector) : Option Int :=
  some (w64 ((w64 (p1.x * p2.x)) + (w64 (p1.y * p2.y))))
theorem curve_vector_dot_le (p1 : CurveVector) (p2 : CurveVector) : Le (curve_vector_dotc p1 p2) (curve_vector_dot p1 p2) := by
  unfold curve_vector_dotc curve_vector_dot
  repeat' first | with_reducible exact Le.refl _ | with_reducible refine Le.bind ?_ fun _ => ?_ | with_reducible refine Le.cond ?_ ?_ | with_reducible refine Le.ite ?_ ?_ | with_reducible refine Le.thenS ?_ (fun _ => ?_) (fun _ => ?_) | with_reducible refine Le.loop (fun _ => ?_) _ | with_reducible refine Le.loopL (fun _ _ => ?_) _ _ | exact Le.refl _
def curve_root_l1c (p1 : Int) (x1 : (Int × Int)) : Option (Stp (Int × Int) Int) :=
  cond (decide (x1.1 < x1.2)) (cond (decide ((w64 ((w64 ((w64 (x1.1 + x1.2)).tdiv 2)) * (w64 ((w64 (x1.1 + x1.2)).tdiv 2)))) < p1)) (some (.go ((w64 ((w64 ((w64 (x1.1 + x1.2)).tdiv 2)) + 1)), x1.2))) (some (.go (x1.1, (w64 ((w64 (x1.1 + x1.2)).tdiv 2)))))) (some (.out x1.1))
theorem curve_root_l1_le (p1 : Int) (x1 : (Int × Int)) : Le (curve_root_l1c p1 x1) (curve_root_l1 p1 x1) := by
  unfold curve_root_l1c curve_root_l1
  repeat' first | with_reducible exact Le.refl _ | with_reducible refine Le.bind ?_ fun _ => ?_ | with_reducible refine Le.cond ?_ ?_ | with_reducible refine Le.ite ?_ ?_ | with_reducible refine Le.thenS ?_ (fun _ => ?_) (fun _ => ?_) | with_reducible refine Le.loop (fun _ => ?_) _ | with_reducible refine Le.loopL (fun _ _ => ?_) _ _ | exact Le.refl _
def curve_rootc (p1 : Int) : Option (Int × Bool) :=
  (loopF (curve_root_l1c p1) (0, 67108864)).bind fun y1 => some (y1, ((w64 (y1 * y1)) == p1))
theorem curve_root_le (p1 : Int) : Le (curve_rootc p1) (curve_root p1) := by
  unfold curve_rootc curve_root
  repeat' first | with_reducible exact Le.refl _ | with_reducible exact curve_root_l1_le _ _ | with_reducible refine Le.bind ?_ fun _ => ?_ | with_reducible refine Le.cond ?_ ?_ | with_reducible refine Le.ite ?_ ?_ | with_reducible refine Le.thenS ?_ (fun _ => ?_) (fun _ => ?_) | with_reducible refine Le.loop (fun _ => ?_) _ | with_reducible refine Le.loopL (fun _ _ => ?_) _ _ | exact Le.refl _
def curve_Check_l1c (p1 : Curve) (x1 : (Int × CurveVector)) : Option (Stp (Int × CurveVector) (Sum Unit Int)) :=
  cond (decide (x1.1 < (w64 ((p1.Pts.length : Int) - 1)))) ((geti p1.Pts x1.1).bind fun v2 => (geti p1.Pts (w64 (x1.1 + 1))).bind fun v3 => (curve_fromc v2 v3).bind fun v4 => (curve_vector_dotc v4 v4).bind fun v5 => (curve_rootc v5).bind fun v6 => cond (!v6.2) (some (.out (.inr 3))) (cond ((decide (v6.1 < 1000)) || (decide (v6.1 > 1048576))) (some (.out (.inr 2))) (((cond (decide (x1.1 > 0)) (curve_vector_dotc x1.2 v4) (some default))).bind fun v7 => cond ((decide (x1.1 > 0)) && (decide (v7 ≤ 0))) (some (.out (.inr 12))) (some (.go ((w64 (x1.1 + 1)), v4)))))) (some (.out (.inl ())))
theorem curve_Check_l1_le (p1 : Curve) (x1 : (Int × CurveVector)) : Le (curve_Check_l1c p1 x1) (curve_Check_l1 p1 x1) := by
  unfold curve_Check_l1c curve_Check_l1
  repeat' first | with_reducible exact Le.refl _ | with_reducible exact curve_from_le _ _ | with_reducible exact curve_vector_dot_le _ _ | with_reducible exact curve_root_le _ | with_reducible refine Le.bind ?_ fun _ => ?_ | with_reducible refine Le.cond ?_ ?_ | with_reducible refine Le.ite ?_ ?_ | with_reducible refine Le.thenS ?_ (fun _ => ?_) (fun _ => ?_) | with_reducible refine Le.loop (fun _ => ?_) _ | with_reducible refine Le.loopL (fun _ _ => ?_) _ _ | exact Le.refl _
def curve_Checkc (p1 : Curve) : Option Int :=
  cond (decide ((p1.Pts.length : Int) < 2)) (some 6) (cond (decide ((p1.Pts.length : Int) > 16)) (some 5) ((curve_fairc p1.Pts).bind fun v1 => cond (!v1) (some 2) (thenS (loopF (curve_Check_l1c p1) (0, (CurveVector.mk 0 0))) (fun _ => some 0) (fun r => some r))))
theorem curve_Check_le (p1 : Curve) : Le (curve_Checkc p1) (curve_Check p1) := by
  unfold curve_Checkc curve_Check
  repeat' first | with_reducible exact Le.refl _ | with_reducible exact curve_fair_le _ | with_reducible exact curve_Check_l1_le _ _ | with_reducible refine Le.bind ?_ fun _ => ?_ | with_reducible refine Le.cond ?_ ?_ | with_reducible refine Le.ite ?_ ?_ | with_reducible refine Le.thenS ?_ (fun _ => ?_) (fun _ => ?_) | with_reducible refine Le.loop (fun _ => ?_) _ | with_reducible refine Le.loopL (fun _ _ => ?_) _ _ | exact Le.refl _
def roads_rising_l1c (p1 : (List Int)) (p3 : Int) (x1 : (Int × Int)) : Option (Stp (Int × Int) (Sum Unit Bool)) :=
  cond (decide (x1.2 < (p1.length : Int))) ((geti p1 x1.2).bind fun v1 => cond ((decide (v1 < x1.1)) || (decide (v1 ≥ p3))) (some (.out (.inr false))) (some (.go ((w64 (v1 + 1)), (w64 (x1.2 + 1)))))) (some (.out (.inl ())))
theorem roads_rising_l1_le (p1 : (List Int)) (p3 : Int) (x1 : (Int × Int)) : Le (roads_rising_l1c p1 p3 x1) (roads_rising_l1 p1 p3 x1) := by
  unfold roads_rising_l1c roads_rising_l1
  repeat' first | with_reducible exact Le.refl _ | with_reducible refine Le.bind ?_ fun _ => ?_ | with_reducible refine Le.cond ?_ ?_ | with_reducible refine Le.ite ?_ ?_ | with_reducible refine Le.thenS ?_ (fun _ => ?_) (fun _ => ?_) | with_reducible refine Le.loop (fun _ => ?_) _ | with_reducible refine Le.loopL (fun _ _ => ?_) _ _ | exact Le.refl _
def roads_risingc (p1 : (List Int)) (p2 : Int) (p3 : Int) : Option Bool :=
  thenS (loopF (roads_rising_l1c p1 p3) (p2, 0)) (fun _ => some true) (fun r => some r)
theorem roads_rising_le (p1 : (List Int)) (p2 : Int) (p3 : Int) : Le (roads_risingc p1 p2 p3) (roads_rising p1 p2 p3) := by
  unfold roads_risingc roads_rising
  repeat' first | with_reducible exact Le.refl _ | with_reducible exact roads_rising_l1_le _ _ _ | with_reducible refine Le.bind ?_ fun _ => ?_ | with_reducible refine Le.cond ?_ ?_ | with_reducible refine Le.ite ?_ ?_ | with_reducible refine Le.thenS ?_ (fun _ => ?_) (fun _ => ?_) | with_reducible refine Le.loop (fun _ => ?_) _ | with_reducible refine Le.loopL (fun _ _ => ?_) _ _ | exact Le.refl _
def roads_check_lanes_l1c (p1 : RoadsCheck) (x1 : Int) : Option (Stp Int (Sum Unit Int)) :=
  cond (decide (x1 < (p1.Map_.Lanes.length : Int))) ((geti p1.Map_.Lanes x1).bind fun v1 => (roads_Boundsc v1.Kind).bind fun v2 => cond (v2.1 == 0) (some (.out (.inr 4))) ((curve_Checkc v1.Curve_).bind fun v3 => cond (v3 != 0) (some (.out (.inr v3))) ((roads_withinc v1.Half 200 4000).bind fun v4 => ((cond (!(!v4)) (roads_withinc v1.Limit 1 v2.1) (some default))).bind fun v5 => cond ((!v4) || (!v5)) (some (.out (.inr 2))) (cond (decide ((v1.Next.length : Int) > 3)) (some (.out (.inr 8))) ((roads_risingc v1.Next (w64 (x1 + 1)) (p1.Map_.Lanes.length : Int)).bind fun v6 => cond (!v6) (some (.out (.inr 11))) (some (.go (w64 (x1 + 1))))))))) (some (.out (.inl ())))
theorem roads_check_lanes_l1_le (p1 : RoadsCheck) (x1 : Int) : Le (roads_check_lanes_l1c p1 x1) (roads_check_lanes_l1 p1 x1) := by
  unfold roads_check_lanes_l1c roads_check_lanes_l1
  repeat' first | with_reducible exact Le.refl _ | with_reducible exact roads_Bounds_le _ | with_reducible exact curve_Check_le _ | with_reducible exact roads_within_le _ _ _ | with_reducible exact roads_rising_le _ _ _ | with_reducible refine Le.bind ?_ fun _ => ?_ | with_reducible refine Le.cond ?_ ?_ | with_reducible refine Le.ite ?_ ?_ | with_reducible refine Le.thenS ?_ (fun _ => ?_) (fun _ => ?_) | with_reducible refine Le.loop (fun _ => ?_) _ | with_reducible refine Le.loopL (fun _ _ => ?_) _ _ | exact Le.refl _
def roads_check_lanesc (p1 : RoadsCheck) : Option Int :=
  thenS (loopF (roads_check_lanes_l1c p1) 0) (fun _ => some 0) (fun r => some r)
theorem roads_check_lanes_le (p1 : RoadsCheck) : Le (roads_check_lanesc p1) (roads_check_lanes p1) := by
  unfold roads_check_lanesc roads_check_lanes
  repeat' first | with_reducible exact Le.refl _ | with_reducible exact roads_check_lanes_l1_le _ _ | with_reducible refine Le.bind ?_ fun _ => ?_ | with_reducible refine Le.cond ?_ ?_ | with_reducible refine Le.ite ?_ ?_ | with_reducible refine Le.thenS ?_ (fun _ => ?_) (fun _ => ?_) | with_reducible refine Le.loop (fun _ => ?_) _ | with_reducible refine Le.loopL (fun _ _ => ?_) _ _ | exact Le.refl _
def roads_check_joints_l2c (p1 : RoadsCheck) (v1 : Lane) (v2 : Spot) (x2 : Int) : Option (Stp Int (Sum Unit Int)) :=
  cond (decide (x2 < (v1.Next.length : Int))) ((geti v1.Next x2).bind fun v3 => (geti p1.Map_.Lanes v3).bind fun v4 => cond (v4.Kind != v1.Kind) (some (.out (.inr 4))) ((geti p1.Map_.Lanes v3).bind fun v5 => (geti v5.Curve_.Pts 0).bind fun v6 => cond (!(v6.X == v2.X && (v6.Y == v2.Y && true))) (some (.out (.inr 3))) (some (.go (w64 (x2 + 1)))))) (some (.out (.inl ())))
theorem roads_check_joints_l2_le (p1 : RoadsCheck) (v1 : Lane) (v2 : Spot) (x2 : Int) : Le (roads_check_joints_l2c p1 v1 v2 x2) (roads_check_joints_l2 p1 v1 v2 x2) := by
  unfold roads_check_joints_l2c roads_check_joints_l2
  repeat' first | with_reducible exact Le.refl _ | with_reducible refine Le.bind ?_ fun _ => ?_ | with_reducible refine Le.cond ?_ ?_ | with_reducible refine Le.ite ?_ ?_ | with_reducible refine Le.thenS ?_ (fun _ => ?_) (fun _ => ?_) | with_reducible refine Le.loop (fun _ => ?_) _ | with_reducible refine Le.loopL (fun _ _ => ?_) _ _ | exact Le.refl _
def roads_check_joints_l1c (p1 : RoadsCheck) (x1 : Int) : Option (Stp Int (Sum Unit Int)) :=
  cond (decide (x1 < (p1.Map_.Lanes.length : Int))) ((geti p1.Map_.Lanes x1).bind fun v1 => (geti v1.Curve_.Pts (w64 ((v1.Curve_.Pts.length : Int) - 1))).bind fun v2 => thenS (loopF (roads_check_joints_l2c p1 v1 v2) 0) (fun _ => some (.go (w64 (x1 + 1)))) (fun r => some (.out (.inr r)))) (some (.out (.inl ())))
theorem roads_check_joints_l1_le (p1 : RoadsCheck) (x1 : Int) : Le (roads_check_joints_l1c p1 x1) (roads_check_joints_l1 p1 x1) := by
  unfold roads_check_joints_l1c roads_check_joints_l1
  repeat' first | with_reducible exact Le.refl _ | with_reducible exact roads_check_joints_l2_le _ _ _ _ | with_reducible refine Le.bind ?_ fun _ => ?_ | with_reducible refine Le.cond ?_ ?_ | with_reducible refine Le.ite ?_ ?_ | with_reducible refine Le.thenS ?_ (fun _ => ?_) (fun _ => ?_) | with_reducible refine Le.loop (fun _ => ?_) _ | with_reducible refine Le.loopL (fun _ _ => ?_) _ _ | exact Le.refl _
def roads_check_jointsc (p1 : RoadsCheck) : Option Int :=
  thenS (loopF (roads_check_joints_l1c p1) 0) (fun _ => some 0) (fun r => some r)
theorem roads_check_joints_le (p1 : RoadsCheck) : Le (roads_check_jointsc p1) (roads_check_joints p1) := by
  unfold roads_check_jointsc roads_check_joints
  repeat' first | with_reducible exact Le.refl _ | with_reducible exact roads_check_joints_l1_le _ _ | with_reducible refine Le.bind ?_ fun _ => ?_ | with_reducible refine Le.cond ?_ ?_ | with_reducible refine Le.ite ?_ ?_ | with_reducible refine Le.thenS ?_ (fun _ => ?_) (fun _ => ?_) | with_reducible refine Le.loop (fun _ => ?_) _ | with_reducible refine Le.loopL (fun _ _ => ?_) _ _ | exact Le.refl _
def roads_check_signals_1c (p1 : Phase) : Option Bool :=
  (roads_withinc p1.Ticks 1 10000).bind fun v1 => some (!v1)
theorem roads_check_signals_1_le (p1 : Phase) : Le (roads_check_signals_1c p1) (roads_check_signals_1 p1) := by
  unfold roads_check_signals_1c roads_check_signals_1
  repeat' first | with_reducible exact Le.refl _ | with_reducible exact roads_within_le _ _ _ | with_reducible refine Le.bind ?_ fun _ => ?_ | with_reducible refine Le.cond ?_ ?_ | with_reducible refine Le.ite ?_ ?_ | with_reducible refine Le.thenS ?_ (fun _ => ?_) (fun _ => ?_) | with_reducible refine Le.loop (fun _ => ?_) _ | with_reducible refine Le.loopL (fun _ _ => ?_) _ _ | exact Le.refl _
def slices_IndexFunc_Phase_Phase_roads_check_signals_1_l1c (p1 : (List Phase)) (x1 : Int) : Option (Stp Int (Sum Unit Int)) :=
  cond (decide (x1 < (p1.length : Int))) ((geti p1 x1).bind fun v1 => (roads_check_signals_1c v1).bind fun v2 => cond v2 (some (.out (.inr x1))) (some (.go (w64 (x1 + 1))))) (some (.out (.inl ())))
theorem slices_IndexFunc_Phase_Phase_roads_check_signals_1_l1_le (p1 : (List Phase)) (x1 : Int) : Le (slices_IndexFunc_Phase_Phase_roads_check_signals_1_l1c p1 x1) (slices_IndexFunc_Phase_Phase_roads_check_signals_1_l1 p1 x1) := by
  unfold slices_IndexFunc_Phase_Phase_roads_check_signals_1_l1c slices_IndexFunc_Phase_Phase_roads_check_signals_1_l1
  repeat' first | with_reducible exact Le.refl _ | with_reducible exact roads_check_signals_1_le _ | with_reducible refine Le.bind ?_ fun _ => ?_ | with_reducible refine Le.cond ?_ ?_ | with_reducible refine Le.ite ?_ ?_ | with_reducible refine Le.thenS ?_ (fun _ => ?_) (fun _ => ?_) | with_reducible refine Le.loop (fun _ => ?_) _ | with_reducible refine Le.loopL (fun _ _ => ?_) _ _ | exact Le.refl _
def slices_IndexFunc_Phase_Phase_roads_check_signals_1c (p1 : (List Phase)) : Option Int :=
  thenS (loopF (slices_IndexFunc_Phase_Phase_roads_check_signals_1_l1c p1) 0) (fun _ => some (-1)) (fun r => some r)
theorem slices_IndexFunc_Phase_Phase_roads_check_signals_1_le (p1 : (List Phase)) : Le (slices_IndexFunc_Phase_Phase_roads_check_signals_1c p1) (slices_IndexFunc_Phase_Phase_roads_check_signals_1 p1) := by
  unfold slices_IndexFunc_Phase_Phase_roads_check_signals_1c slices_IndexFunc_Phase_Phase_roads_check_signals_1
  repeat' first | with_reducible exact Le.refl _ | with_reducible exact slices_IndexFunc_Phase_Phase_roads_check_signals_1_l1_le _ _ | with_reducible refine Le.bind ?_ fun _ => ?_ | with_reducible refine Le.cond ?_ ?_ | with_reducible refine Le.ite ?_ ?_ | with_reducible refine Le.thenS ?_ (fun _ => ?_) (fun _ => ?_) | with_reducible refine Le.loop (fun _ => ?_) _ | with_reducible refine Le.loopL (fun _ _ => ?_) _ _ | exact Le.refl _
def slices_ContainsFunc_Phase_Phase_roads_check_signals_1c (p1 : (List Phase)) : Option Bool :=
  (slices_IndexFunc_Phase_Phase_roads_check_signals_1c p1).bind fun v1 => some (decide (v1 ≥ 0))
theorem slices_ContainsFunc_Phase_Phase_roads_check_signals_1_le (p1 : (List Phase)) : Le (slices_ContainsFunc_Phase_Phase_roads_check_signals_1c p1) (slices_ContainsFunc_Phase_Phase_roads_check_signals_1 p1) := by
  unfold slices_ContainsFunc_Phase_Phase_roads_check_signals_1c slices_ContainsFunc_Phase_Phase_roads_check_signals_1
  repeat' first | with_reducible exact Le.refl _ | with_reducible exact slices_IndexFunc_Phase_Phase_roads_check_signals_1_le _ | with_reducible refine Le.bind ?_ fun _ => ?_ | with_reducible refine Le.cond ?_ ?_ | with_reducible refine Le.ite ?_ ?_ | with_reducible refine Le.thenS ?_ (fun _ => ?_) (fun _ => ?_) | with_reducible refine Le.loop (fun _ => ?_) _ | with_reducible refine Le.loopL (fun _ _ => ?_) _ _ | exact Le.refl _
def roads_check_signals_2_bc (p1 : Phase) (p2 : RoadsCheck) : Option Bool :=
  (roads_risingc p1.Green 0 (p2.Map_.Lanes.length : Int)).bind fun v1 => some (!v1)
theorem roads_check_signals_2_b_le (p1 : Phase) (p2 : RoadsCheck) : Le (roads_check_signals_2_bc p1 p2) (roads_check_signals_2_b p1 p2) := by
  unfold roads_check_signals_2_bc roads_check_signals_2_b
  repeat' first | with_reducible exact Le.refl _ | with_reducible exact roads_rising_le _ _ _ | with_reducible refine Le.bind ?_ fun _ => ?_ | with_reducible refine Le.cond ?_ ?_ | with_reducible refine Le.ite ?_ ?_ | with_reducible refine Le.thenS ?_ (fun _ => ?_) (fun _ => ?_) | with_reducible refine Le.loop (fun _ => ?_) _ | with_reducible refine Le.loopL (fun _ _ => ?_) _ _ | exact Le.refl _
def slices_IndexFunc_Phase_Phase_roads_check_signals_2b_l1c (p1 : (List Phase)) (p2 : RoadsCheck) (x1 : Int) : Option (Stp Int (Sum Unit Int)) :=
  cond (decide (x1 < (p1.length : Int))) ((geti p1 x1).bind fun v1 => (roads_check_signals_2_bc v1 p2).bind fun v2 => cond v2 (some (.out (.inr x1))) (some (.go (w64 (x1 + 1))))) (some (.out (.inl ())))
theorem slices_IndexFunc_Phase_Phase_roads_check_signals_2b_l1_le (p1 : (List Phase)) (p2 : RoadsCheck) (x1 : Int) : Le (slices_IndexFunc_Phase_Phase_roads_check_signals_2b_l1c p1 p2 x1) (slices_IndexFunc_Phase_Phase_roads_check_signals_2b_l1 p1 p2 x1) := by
  unfold slices_IndexFunc_Phase_Phase_roads_check_signals_2b_l1c slices_IndexFunc_Phase_Phase_roads_check_signals_2b_l1
  repeat' first | with_reducible exact Le.refl _ | with_reducible exact roads_check_signals_2_b_le _ _ | with_reducible refine Le.bind ?_ fun _ => ?_ | with_reducible refine Le.cond ?_ ?_ | with_reducible refine Le.ite ?_ ?_ | with_reducible refine Le.thenS ?_ (fun _ => ?_) (fun _ => ?_) | with_reducible refine Le.loop (fun _ => ?_) _ | with_reducible refine Le.loopL (fun _ _ => ?_) _ _ | exact Le.refl _
def slices_IndexFunc_Phase_Phase_roads_check_signals_2bc (p1 : (List Phase)) (p2 : RoadsCheck) : Option Int :=
  thenS (loopF (slices_IndexFunc_Phase_Phase_roads_check_signals_2b_l1c p1 p2) 0) (fun _ => some (-1)) (fun r => some r)
theorem slices_IndexFunc_Phase_Phase_roads_check_signals_2b_le (p1 : (List Phase)) (p2 : RoadsCheck) : Le (slices_IndexFunc_Phase_Phase_roads_check_signals_2bc p1 p2) (slices_IndexFunc_Phase_Phase_roads_check_signals_2b p1 p2) := by
  unfold slices_IndexFunc_Phase_Phase_roads_check_signals_2bc slices_IndexFunc_Phase_Phase_roads_check_signals_2b
  repeat' first | with_reducible exact Le.refl _ | with_reducible exact slices_IndexFunc_Phase_Phase_roads_check_signals_2b_l1_le _ _ _ | with_reducible refine Le.bind ?_ fun _ => ?_ | with_reducible refine Le.cond ?_ ?_ | with_reducible refine Le.ite ?_ ?_ | with_reducible refine Le.thenS ?_ (fun _ => ?_) (fun _ => ?_) | with_reducible refine Le.loop (fun _ => ?_) _ | with_reducible refine Le.loopL (fun _ _ => ?_) _ _ | exact Le.refl _
def slices_ContainsFunc_Phase_Phase_roads_check_signals_2bc (p1 : (List Phase)) (p2 : RoadsCheck) : Option Bool :=
  (slices_IndexFunc_Phase_Phase_roads_check_signals_2bc p1 p2).bind fun v1 => some (decide (v1 ≥ 0))
theorem slices_ContainsFunc_Phase_Phase_roads_check_signals_2b_le (p1 : (List Phase)) (p2 : RoadsCheck) : Le (slices_ContainsFunc_Phase_Phase_roads_check_signals_2bc p1 p2) (slices_ContainsFunc_Phase_Phase_roads_check_signals_2b p1 p2) := by
  unfold slices_ContainsFunc_Phase_Phase_roads_check_signals_2bc slices_ContainsFunc_Phase_Phase_roads_check_signals_2b
  repeat' first | with_reducible exact Le.refl _ | with_reducible exact slices_IndexFunc_Phase_Phase_roads_check_signals_2b_le _ _ | with_reducible refine Le.bind ?_ fun _ => ?_ | with_reducible refine Le.cond ?_ ?_ | with_reducible refine Le.ite ?_ ?_ | with_reducible refine Le.thenS ?_ (fun _ => ?_) (fun _ => ?_) | with_reducible refine Le.loop (fun _ => ?_) _ | with_reducible refine Le.loopL (fun _ _ => ?_) _ _ | exact Le.refl _
def roads_check_signals_l1c (p1 : RoadsCheck) (x1 : Int) : Option (Stp Int (Sum Unit Int)) :=
  cond (decide (x1 < (p1.Map_.Signals.length : Int))) ((geti p1.Map_.Signals x1).bind fun v1 => cond ((v1.Phases.length : Int) == 0) (some (.out (.inr 6))) (cond (decide ((v1.Phases.length : Int) > 6)) (some (.out (.inr 8))) ((roads_withinc v1.Offset 0 1099511627776).bind fun v2 => cond (!v2) (some (.out (.inr 2))) ((slices_ContainsFunc_Phase_Phase_roads_check_signals_1c v1.Phases).bind fun v3 => cond v3 (some (.out (.inr 2))) ((slices_ContainsFunc_Phase_Phase_roads_check_signals_2bc v1.Phases p1).bind fun v4 => cond v4 (some (.out (.inr 11))) (some (.go (w64 (x1 + 1))))))))) (some (.out (.inl ())))
theorem roads_check_signals_l1_le (p1 : RoadsCheck) (x1 : Int) : Le (roads_check_signals_l1c p1 x1) (roads_check_signals_l1 p1 x1) := by
  unfold roads_check_signals_l1c roads_check_signals_l1
  repeat' first | with_reducible exact Le.refl _ | with_reducible exact roads_within_le _ _ _ | with_reducible exact slices_ContainsFunc_Phase_Phase_roads_check_signals_1_le _ | with_reducible exact slices_ContainsFunc_Phase_Phase_roads_check_signals_2b_le _ _ | with_reducible refine Le.bind ?_ fun _ => ?_ | with_reducible refine Le.cond ?_ ?_ | with_reducible refine Le.ite ?_ ?_ | with_reducible refine Le.thenS ?_ (fun _ => ?_) (fun _ => ?_) | with_reducible refine Le.loop (fun _ => ?_) _ | with_reducible refine Le.loopL (fun _ _ => ?_) _ _ | exact Le.refl _
def roads_check_signalsc (p1 : RoadsCheck) : Option Int :=
  thenS (loopF (roads_check_signals_l1c p1) 0) (fun _ => some 0) (fun r => some r)
theorem roads_check_signals_le (p1 : RoadsCheck) : Le (roads_check_signalsc p1) (roads_check_signals p1) := by
  unfold roads_check_signalsc roads_check_signals
  repeat' first | with_reducible exact Le.refl _ | with_reducible exact roads_check_signals_l1_le _ _ | with_reducible refine Le.bind ?_ fun _ => ?_ | with_reducible refine Le.cond ?_ ?_ | with_reducible refine Le.ite ?_ ?_ | with_reducible refine Le.thenS ?_ (fun _ => ?_) (fun _ => ?_) | with_reducible refine Le.loop (fun _ => ?_) _ | with_reducible refine Le.loopL (fun _ _ => ?_) _ _ | exact Le.refl _
def piecesGoc (pts : List Spot) : Nat → Nat → Int → Option (List (Int × CurvePiece))
  | 0, _, _ => some []
  | n + 1, i, start => (pts[i]?).bind fun p => (pts[i + 1]?).bind fun q => (curve_fromc p q).bind fun v => (curve_vector_dotc v v).bind fun d => (curve_rootc d).bind fun r =>
    (piecesGoc pts n (i + 1) (w64 (start + r.1))).bind fun l => some (((i : Int), CurvePiece.mk p v r.1 start) :: l)
theorem piecesGo_le (pts : List Spot) : ∀ (n i : Nat) (s : Int), Le (piecesGoc pts n i s) (piecesGo pts n i s)
  | 0, i, s => Le.refl _
  | n + 1, i, s => by
    rw [piecesGo, piecesGoc]
    exact Le.bind (Le.refl _) fun _ => Le.bind (Le.refl _) fun _ => Le.bind (curve_from_le _ _) fun _ => Le.bind (curve_vector_dot_le _ _) fun _ => Le.bind (curve_root_le _) fun _ => Le.bind (piecesGo_le pts n _ _) fun _ => Le.refl _
def piecesCc (pts : List Spot) : Option (List (Int × CurvePiece)) := if pts.length ≤ 1000000 then piecesGoc pts (pts.length - 1) 0 0 else none
theorem piecesC_le (pts : List Spot) : Le (piecesCc pts) (piecesC pts) := by
  unfold piecesCc piecesC
  repeat' first | with_reducible exact Le.refl _ | with_reducible exact piecesGo_le _ _ _ _ | with_reducible refine Le.bind ?_ fun _ => ?_ | with_reducible refine Le.cond ?_ ?_ | with_reducible refine Le.ite ?_ ?_ | with_reducible refine Le.thenS ?_ (fun _ => ?_) (fun _ => ?_) | with_reducible refine Le.loop (fun _ => ?_) _ | with_reducible refine Le.loopL (fun _ _ => ?_) _ _ | exact Le.refl _
def curve_Pieces_l1c (x1 : (List Int)) (a1 : (Int × CurvePiece)) : Option (Stp (List Int) (List Int)) :=
  (appc x1 [a1.2.l]).bind fun v3 => some (.go v3)
theorem curve_Pieces_l1_le (x1 : (List Int)) (a1 : (Int × CurvePiece)) : Le (curve_Pieces_l1c x1 a1) (curve_Pieces_l1 x1 a1) := by
  unfold curve_Pieces_l1c curve_Pieces_l1
  repeat' first | with_reducible exact Le.refl _ | with_reducible refine Le.bind ?_ fun _ => ?_ | with_reducible refine Le.cond ?_ ?_ | with_reducible refine Le.ite ?_ ?_ | with_reducible refine Le.thenS ?_ (fun _ => ?_) (fun _ => ?_) | with_reducible refine Le.loop (fun _ => ?_) _ | with_reducible refine Le.loopL (fun _ _ => ?_) _ _ | exact Le.refl _
def curve_Piecesc (p1 : Curve) : Option (List Int) :=
  (curve_Checkc p1).bind fun v1 => cond (v1 != 0) (some []) (((piecesCc p1.Pts).bind fun v2 => loopL (curve_Pieces_l1c) (fun (x1 : (List Int)) => x1) v2 []).bind fun y1 => some y1)
theorem curve_Pieces_le (p1 : Curve) : Le (curve_Piecesc p1) (curve_Pieces p1) := by
  unfold curve_Piecesc curve_Pieces
  repeat' first | with_reducible exact Le.refl _ | with_reducible exact curve_Check_le _ | with_reducible exact piecesC_le _ | with_reducible exact curve_Pieces_l1_le _ _ | with_reducible refine Le.bind ?_ fun _ => ?_ | with_reducible refine Le.cond ?_ ?_ | with_reducible refine Le.ite ?_ ?_ | with_reducible refine Le.thenS ?_ (fun _ => ?_) (fun _ => ?_) | with_reducible refine Le.loop (fun _ => ?_) _ | with_reducible refine Le.loopL (fun _ _ => ?_) _ _ | exact Le.refl _
def curve_Length_l1c (v1 : (List Int)) (x1 : (Int × Int)) : Option (Stp (Int × Int) Int) :=
  cond (decide (x1.2 < (v1.length : Int))) ((geti v1 x1.2).bind fun v2 => some (.go ((w64 (x1.1 + v2)), (w64 (x1.2 + 1))))) (some (.out x1.1))
theorem curve_Length_l1_le (v1 : (List Int)) (x1 : (Int × Int)) : Le (curve_Length_l1c v1 x1) (curve_Length_l1 v1 x1) := by
  unfold curve_Length_l1c curve_Length_l1
  repeat' first | with_reducible exact Le.refl _ | with_reducible refine Le.bind ?_ fun _ => ?_ | with_reducible refine Le.cond ?_ ?_ | with_reducible refine Le.ite ?_ ?_ | with_reducible refine Le.thenS ?_ (fun _ => ?_) (fun _ => ?_) | with_reducible refine Le.loop (fun _ => ?_) _ | with_reducible refine Le.loopL (fun _ _ => ?_) _ _ | exact Le.refl _
def curve_Lengthc (p1 : Curve) : Option Int :=
  (curve_Piecesc p1).bind fun v1 => (loopF (curve_Length_l1c v1) (0, 0)).bind fun y1 => some y1
theorem curve_Length_le (p1 : Curve) : Le (curve_Lengthc p1) (curve_Length p1) := by
  unfold curve_Lengthc curve_Length
  repeat' first | with_reducible exact Le.refl _ | with_reducible exact curve_Pieces_le _ | with_reducible exact curve_Length_l1_le _ _ | with_reducible refine Le.bind ?_ fun _ => ?_ | with_reducible refine Le.cond ?_ ?_ | with_reducible refine Le.ite ?_ ?_ | with_reducible refine Le.thenS ?_ (fun _ => ?_) (fun _ => ?_) | with_reducible refine Le.loop (fun _ => ?_) _ | with_reducible refine Le.loopL (fun _ _ => ?_) _ _ | exact Le.refl _
def roads_longc (p1 : Map) (p2 : Int) : Option Int :=
  (geti p1.Lanes p2).bind fun v1 => (curve_Lengthc v1.Curve_).bind fun v2 => some v2
theorem roads_long_le (p1 : Map) (p2 : Int) : Le (roads_longc p1 p2) (roads_long p1 p2) := by
  unfold roads_longc roads_long
  repeat' first | with_reducible exact Le.refl _ | with_reducible exact curve_Length_le _ | with_reducible refine Le.bind ?_ fun _ => ?_ | with_reducible refine Le.cond ?_ ?_ | with_reducible refine Le.ite ?_ ?_ | with_reducible refine Le.thenS ?_ (fun _ => ?_) (fun _ => ?_) | with_reducible refine Le.loop (fun _ => ?_) _ | with_reducible refine Le.loopL (fun _ _ => ?_) _ _ | exact Le.refl _
def roads_check_zones_l3c (p1 : RoadsCheck) (v1 : Zone) (x3 : Int) : Option (Stp Int (Sum Unit Int)) :=
  cond (decide (x3 < (v1.Parts.length : Int))) ((geti v1.Parts x3).bind fun v5 => ((cond (!((decide (v5.From < 0)) || (decide (v5.From ≥ v5.To)))) (roads_longc p1.Map_ v5.Lane_) (some default))).bind fun v6 => cond (((((decide (v5.From < 0)) || (decide (v5.From ≥ v5.To))) || (decide (v5.To > v6))) || (decide (v5.Rank < 0))) || (decide (v5.Rank > 100))) (some (.out (.inr 2))) (some (.go (w64 (x3 + 1))))) (some (.out (.inl ())))
theorem roads_check_zones_l3_le (p1 : RoadsCheck) (v1 : Zone) (x3 : Int) : Le (roads_check_zones_l3c p1 v1 x3) (roads_check_zones_l3 p1 v1 x3) := by
  unfold roads_check_zones_l3c roads_check_zones_l3
  repeat' first | with_reducible exact Le.refl _ | with_reducible exact roads_long_le _ _ | with_reducible refine Le.bind ?_ fun _ => ?_ | with_reducible refine Le.cond ?_ ?_ | with_reducible refine Le.ite ?_ ?_ | with_reducible refine Le.thenS ?_ (fun _ => ?_) (fun _ => ?_) | with_reducible refine Le.loop (fun _ => ?_) _ | with_reducible refine Le.loopL (fun _ _ => ?_) _ _ | exact Le.refl _
def roads_check_zones_l2c (v1 : Zone) (x2 : ((List Int) × Int)) : Option (Stp ((List Int) × Int) (List Int)) :=
  cond (decide (x2.2 < (v1.Parts.length : Int))) ((geti v1.Parts x2.2).bind fun v2 => (appc x2.1 [v2.Lane_]).bind fun v3 => some (.go (v3, (w64 (x2.2 + 1))))) (some (.out x2.1))
theorem roads_check_zones_l2_le (v1 : Zone) (x2 : ((List Int) × Int)) : Le (roads_check_zones_l2c v1 x2) (roads_check_zones_l2 v1 x2) := by
  unfold roads_check_zones_l2c roads_check_zones_l2
  repeat' first | with_reducible exact Le.refl _ | with_reducible refine Le.bind ?_ fun _ => ?_ | with_reducible refine Le.cond ?_ ?_ | with_reducible refine Le.ite ?_ ?_ | with_reducible refine Le.thenS ?_ (fun _ => ?_) (fun _ => ?_) | with_reducible refine Le.loop (fun _ => ?_) _ | with_reducible refine Le.loopL (fun _ _ => ?_) _ _ | exact Le.refl _
def roads_check_zones_l1c (p1 : RoadsCheck) (x1 : Int) : Option (Stp Int (Sum Unit Int)) :=
  cond (decide (x1 < (p1.Map_.Zones.length : Int))) ((geti p1.Map_.Zones x1).bind fun v1 => cond (decide ((v1.Parts.length : Int) < 2)) (some (.out (.inr 6))) (cond (decide ((v1.Parts.length : Int) > 6)) (some (.out (.inr 8))) (cond ((decide (v1.Signal_ < 0)) || (decide (v1.Signal_ > (p1.Map_.Signals.length : Int)))) (some (.out (.inr 2))) ((loopF (roads_check_zones_l2c v1) ([], 0)).bind fun y2 => (roads_risingc y2 0 (p1.Map_.Lanes.length : Int)).bind fun v4 => cond (!v4) (some (.out (.inr 11))) (thenS (loopF (roads_check_zones_l3c p1 v1) 0) (fun _ => some (.go (w64 (x1 + 1)))) (fun r => some (.out (.inr r)))))))) (some (.out (.inl ())))
theorem roads_check_zones_l1_le (p1 : RoadsCheck) (x1 : Int) : Le (roads_check_zones_l1c p1 x1) (roads_check_zones_l1 p1 x1) := by
  unfold roads_check_zones_l1c roads_check_zones_l1
  repeat' first | with_reducible exact Le.refl _ | with_reducible exact roads_check_zones_l2_le _ _ | with_reducible exact roads_rising_le _ _ _ | with_reducible exact roads_check_zones_l3_le _ _ _ | with_reducible refine Le.bind ?_ fun _ => ?_ | with_reducible refine Le.cond ?_ ?_ | with_reducible refine Le.ite ?_ ?_ | with_reducible refine Le.thenS ?_ (fun _ => ?_) (fun _ => ?_) | with_reducible refine Le.loop (fun _ => ?_) _ | with_reducible refine Le.loopL (fun _ _ => ?_) _ _ | exact Le.refl _
def roads_check_zonesc (p1 : RoadsCheck) : Option Int :=
  thenS (loopF (roads_check_zones_l1c p1) 0) (fun _ => some 0) (fun r => some r)
theorem roads_check_zones_le (p1 : RoadsCheck) : Le (roads_check_zonesc p1) (roads_check_zones p1) := by
  unfold roads_check_zonesc roads_check_zones
  repeat' first | with_reducible exact Le.refl _ | with_reducible exact roads_check_zones_l1_le _ _ | with_reducible refine Le.bind ?_ fun _ => ?_ | with_reducible refine Le.cond ?_ ?_ | with_reducible refine Le.ite ?_ ?_ | with_reducible refine Le.thenS ?_ (fun _ => ?_) (fun _ => ?_) | with_reducible refine Le.loop (fun _ => ?_) _ | with_reducible refine Le.loopL (fun _ _ => ?_) _ _ | exact Le.refl _
def roads_check_works_l1c (p1 : RoadsCheck) (x1 : Int) : Option (Stp Int (Sum Unit Int)) :=
  cond (decide (x1 < (p1.Map_.Works.length : Int))) ((geti p1.Map_.Works x1).bind fun v1 => cond ((decide (v1.Lane_ < 0)) || (decide (v1.Lane_ ≥ (p1.Map_.Lanes.length : Int)))) (some (.out (.inr 7))) ((geti p1.Map_.Lanes v1.Lane_).bind fun v2 => (roads_Boundsc v2.Kind).bind fun v3 => ((cond (!((decide (v1.From < 0)) || (decide (v1.From > v1.To)))) (roads_longc p1.Map_ v1.Lane_) (some default))).bind fun v4 => ((cond (!((((((decide (v1.From < 0)) || (decide (v1.From > v1.To))) || (decide (v1.To > v4))) || (decide (v1.Begin < 0))) || (decide (v1.Begin ≥ v1.End))) || (decide (v1.End > 1099511627776)))) (roads_withinc v1.Limit 0 v3.1) (some default))).bind fun v5 => cond (((((((decide (v1.From < 0)) || (decide (v1.From > v1.To))) || (decide (v1.To > v4))) || (decide (v1.Begin < 0))) || (decide (v1.Begin ≥ v1.End))) || (decide (v1.End > 1099511627776))) || (!v5)) (some (.out (.inr 2))) (some (.go (w64 (x1 + 1)))))) (some (.out (.inl ())))
theorem roads_check_works_l1_le (p1 : RoadsCheck) (x1 : Int) : Le (roads_check_works_l1c p1 x1) (roads_check_works_l1 p1 x1) := by
  unfold roads_check_works_l1c roads_check_works_l1
  repeat' first | with_reducible exact Le.refl _ | with_reducible exact roads_Bounds_le _ | with_reducible exact roads_long_le _ _ | with_reducible exact roads_within_le _ _ _ | with_reducible refine Le.bind ?_ fun _ => ?_ | with_reducible refine Le.cond ?_ ?_ | with_reducible refine Le.ite ?_ ?_ | with_reducible refine Le.thenS ?_ (fun _ => ?_) (fun _ => ?_) | with_reducible refine Le.loop (fun _ => ?_) _ | with_reducible refine Le.loopL (fun _ _ => ?_) _ _ | exact Le.refl _
def roads_check_worksc (p1 : RoadsCheck) : Option Int :=
  thenS (loopF (roads_check_works_l1c p1) 0) (fun _ => some 0) (fun r => some r)
theorem roads_check_works_le (p1 : RoadsCheck) : Le (roads_check_worksc p1) (roads_check_works p1) := by
  unfold roads_check_worksc roads_check_works
  repeat' first | with_reducible exact Le.refl _ | with_reducible exact roads_check_works_l1_le _ _ | with_reducible refine Le.bind ?_ fun _ => ?_ | with_reducible refine Le.cond ?_ ?_ | with_reducible refine Le.ite ?_ ?_ | with_reducible refine Le.thenS ?_ (fun _ => ?_) (fun _ => ?_) | with_reducible refine Le.loop (fun _ => ?_) _ | with_reducible refine Le.loopL (fun _ _ => ?_) _ _ | exact Le.refl _
def choose_roads_check_numbersc (v : Nat) (p1 : RoadsCheck) : Option Int :=
  cond (Nat.beq v 65) (roads_check_numbersc p1) (cond (Nat.beq v 66) (roads_check_lanesc p1) (cond (Nat.beq v 67) (roads_check_jointsc p1) (cond (Nat.beq v 68) (roads_check_signalsc p1) (cond (Nat.beq v 69) (roads_check_zonesc p1) (cond (Nat.beq v 70) (roads_check_worksc p1) (none))))))
theorem choose_roads_check_numbers_le (v : Nat) (p1 : RoadsCheck) : Le (choose_roads_check_numbersc v p1) (choose_roads_check_numbers v p1) := by
  unfold choose_roads_check_numbersc choose_roads_check_numbers
  repeat' first | with_reducible exact Le.refl _ | with_reducible exact roads_check_numbers_le _ | with_reducible exact roads_check_lanes_le _ | with_reducible exact roads_check_joints_le _ | with_reducible exact roads_check_signals_le _ | with_reducible exact roads_check_zones_le _ | with_reducible exact roads_check_works_le _ | with_reducible refine Le.bind ?_ fun _ => ?_ | with_reducible refine Le.cond ?_ ?_ | with_reducible refine Le.ite ?_ ?_ | with_reducible refine Le.thenS ?_ (fun _ => ?_) (fun _ => ?_) | with_reducible refine Le.loop (fun _ => ?_) _ | with_reducible refine Le.loopL (fun _ _ => ?_) _ _ | exact Le.refl _
def roads_Check_l1c (p1 : Map) (x1 : Int) : Option (Stp Int (Sum Unit Int)) :=
  cond (decide (x1 < ([65, 66, 67, 68, 69, 70].length : Int))) ((geti [65, 66, 67, 68, 69, 70] x1).bind fun v1 => (choose_roads_check_numbersc v1 (RoadsCheck.mk p1)).bind fun v2 => cond (v2 != 0) (some (.out (.inr v2))) (some (.go (w64 (x1 + 1))))) (some (.out (.inl ())))
theorem roads_Check_l1_le (p1 : Map) (x1 : Int) : Le (roads_Check_l1c p1 x1) (roads_Check_l1 p1 x1) := by
  unfold roads_Check_l1c roads_Check_l1
  repeat' first | with_reducible exact Le.refl _ | with_reducible exact choose_roads_check_numbers_le _ _ | with_reducible refine Le.bind ?_ fun _ => ?_ | with_reducible refine Le.cond ?_ ?_ | with_reducible refine Le.ite ?_ ?_ | with_reducible refine Le.thenS ?_ (fun _ => ?_) (fun _ => ?_) | with_reducible refine Le.loop (fun _ => ?_) _ | with_reducible refine Le.loopL (fun _ _ => ?_) _ _ | exact Le.refl _
def roads_Checkc (p1 : Map) : Option Int :=
  thenS (loopF (roads_Check_l1c p1) 0) (fun _ => some 0) (fun r => some r)
theorem roads_Check_le (p1 : Map) : Le (roads_Checkc p1) (roads_Check p1) := by
  unfold roads_Checkc roads_Check
  repeat' first | with_reducible exact Le.refl _ | with_reducible exact roads_Check_l1_le _ _ | with_reducible refine Le.bind ?_ fun _ => ?_ | with_reducible refine Le.cond ?_ ?_ | with_reducible refine Le.ite ?_ ?_ | with_reducible refine Le.thenS ?_ (fun _ => ?_) (fun _ => ?_) | with_reducible refine Le.loop (fun _ => ?_) _ | with_reducible refine Le.loopL (fun _ _ => ?_) _ _ | exact Le.refl _
def slices_Index_int_int_l1c (p1 : (List Int)) (p2 : Int) (x1 : Int) : Option (Stp Int (Sum Unit Int)) :=
  cond (decide (x1 < (p1.length : Int))) ((geti p1 x1).bind fun v1 => cond (p2 == v1) (some (.out (.inr x1))) (some (.go (w64 (x1 + 1))))) (some (.out (.inl ())))
theorem slices_Index_int_int_l1_le (p1 : (List Int)) (p2 : Int) (x1 : Int) : Le (slices_Index_int_int_l1c p1 p2 x1) (slices_Index_int_int_l1 p1 p2 x1) := by
  unfold slices_Index_int_int_l1c slices_Index_int_int_l1
  repeat' first | with_reducible exact Le.refl _ | with_reducible refine Le.bind ?_ fun _ => ?_ | with_reducible refine Le.cond ?_ ?_ | with_reducible refine Le.ite ?_ ?_ | with_reducible refine Le.thenS ?_ (fun _ => ?_) (fun _ => ?_) | with_reducible refine Le.loop (fun _ => ?_) _ | with_reducible refine Le.loopL (fun _ _ => ?_) _ _ | exact Le.refl _
def slices_Index_int_intc (p1 : (List Int)) (p2 : Int) : Option Int :=
  thenS (loopF (slices_Index_int_int_l1c p1 p2) 0) (fun _ => some (-1)) (fun r => some r)
theorem slices_Index_int_int_le (p1 : (List Int)) (p2 : Int) : Le (slices_Index_int_intc p1 p2) (slices_Index_int_int p1 p2) := by
  unfold slices_Index_int_intc slices_Index_int_int
  repeat' first | with_reducible exact Le.refl _ | with_reducible exact slices_Index_int_int_l1_le _ _ _ | with_reducible refine Le.bind ?_ fun _ => ?_ | with_reducible refine Le.cond ?_ ?_ | with_reducible refine Le.ite ?_ ?_ | with_reducible refine Le.thenS ?_ (fun _ => ?_) (fun _ => ?_) | with_reducible refine Le.loop (fun _ => ?_) _ | with_reducible refine Le.loopL (fun _ _ => ?_) _ _ | exact Le.refl _
def slices_Contains_int_intc (p1 : (List Int)) (p2 : Int) : Option Bool :=
  (slices_Index_int_intc p1 p2).bind fun v1 => some (decide (v1 ≥ 0))
theorem slices_Contains_int_int_le (p1 : (List Int)) (p2 : Int) : Le (slices_Contains_int_intc p1 p2) (slices_Contains_int_int p1 p2) := by
  unfold slices_Contains_int_intc slices_Contains_int_int
  repeat' first | with_reducible exact Le.refl _ | with_reducible exact slices_Index_int_int_le _ _ | with_reducible refine Le.bind ?_ fun _ => ?_ | with_reducible refine Le.cond ?_ ?_ | with_reducible refine Le.ite ?_ ?_ | with_reducible refine Le.thenS ?_ (fun _ => ?_) (fun _ => ?_) | with_reducible refine Le.loop (fun _ => ?_) _ | with_reducible refine Le.loopL (fun _ _ => ?_) _ _ | exact Le.refl _
def roads_before_l1c (p1 : Map) (p2 : Int) (x1 : ((List Int) × Int)) : Option (Stp ((List Int) × Int) (List Int)) :=
  cond (decide (x1.2 < (p1.Lanes.length : Int))) ((geti p1.Lanes x1.2).bind fun v1 => (slices_Contains_int_intc v1.Next p2).bind fun v2 => cond v2 ((appc x1.1 [x1.2]).bind fun v3 => some (.go (v3, (w64 (x1.2 + 1))))) (some (.go (x1.1, (w64 (x1.2 + 1)))))) (some (.out x1.1))
theorem roads_before_l1_le (p1 : Map) (p2 : Int) (x1 : ((List Int) × Int)) : Le (roads_before_l1c p1 p2 x1) (roads_before_l1 p1 p2 x1) := by
  unfold roads_before_l1c roads_before_l1
  repeat' first | with_reducible exact Le.refl _ | with_reducible exact slices_Contains_int_int_le _ _ | with_reducible refine Le.bind ?_ fun _ => ?_ | with_reducible refine Le.cond ?_ ?_ | with_reducible refine Le.ite ?_ ?_ | with_reducible refine Le.thenS ?_ (fun _ => ?_) (fun _ => ?_) | with_reducible refine Le.loop (fun _ => ?_) _ | with_reducible refine Le.loopL (fun _ _ => ?_) _ _ | exact Le.refl _
def roads_beforec (p1 : Map) (p2 : Int) : Option (List Int) :=
  (loopF (roads_before_l1c p1 p2) ([], 0)).bind fun y1 => some y1
theorem roads_before_le (p1 : Map) (p2 : Int) : Le (roads_beforec p1 p2) (roads_before p1 p2) := by
  unfold roads_beforec roads_before
  repeat' first | with_reducible exact Le.refl _ | with_reducible exact roads_before_l1_le _ _ _ | with_reducible refine Le.bind ?_ fun _ => ?_ | with_reducible refine Le.cond ?_ ?_ | with_reducible refine Le.ite ?_ ?_ | with_reducible refine Le.thenS ?_ (fun _ => ?_) (fun _ => ?_) | with_reducible refine Le.loop (fun _ => ?_) _ | with_reducible refine Le.loopL (fun _ _ => ?_) _ _ | exact Le.refl _
def roads_CheckRoute_l1c (p1 : Map) (v7 : List Int) (x1 : (Int × Int)) : Option (Stp (Int × Int) (Sum Unit Int)) :=
  cond (decide (x1.2 < (v7.length : Int))) ((geti v7 x1.2).bind fun v8 => (geti p1.Lanes x1.1).bind fun v9 => (slices_Contains_int_intc v9.Next v8).bind fun v10 => cond (!v10) (some (.out (.inr 13))) (some (.go (v8, (w64 (x1.2 + 1)))))) (some (.out (.inl ())))
theorem roads_CheckRoute_l1_le (p1 : Map) (v7 : List Int) (x1 : (Int × Int)) : Le (roads_CheckRoute_l1c p1 v7 x1) (roads_CheckRoute_l1 p1 v7 x1) := by
  unfold roads_CheckRoute_l1c roads_CheckRoute_l1
  repeat' first | with_reducible exact Le.refl _ | with_reducible exact slices_Contains_int_int_le _ _ | with_reducible refine Le.bind ?_ fun _ => ?_ | with_reducible refine Le.cond ?_ ?_ | with_reducible refine Le.ite ?_ ?_ | with_reducible refine Le.thenS ?_ (fun _ => ?_) (fun _ => ?_) | with_reducible refine Le.loop (fun _ => ?_) _ | with_reducible refine Le.loopL (fun _ _ => ?_) _ _ | exact Le.refl _
def roads_CheckRoutec (p1 : Map) (p2 : (List Int)) : Option Int :=
  (roads_Checkc p1).bind fun v1 => cond (v1 != 0) (some v1) (((cond (!(((p2.length : Int) == 0) || (decide ((p2.length : Int) > 8)))) (geti p2 0) (some default))).bind fun v2 => ((cond (!((((p2.length : Int) == 0) || (decide ((p2.length : Int) > 8))) || (decide (v2 < 0)))) (geti p2 0) (some default))).bind fun v3 => ((cond (!(((((p2.length : Int) == 0) || (decide ((p2.length : Int) > 8))) || (decide (v2 < 0))) || (decide (v3 ≥ (p1.Lanes.length : Int))))) (geti p2 0) (some default))).bind fun v4 => ((cond (!(((((p2.length : Int) == 0) || (decide ((p2.length : Int) > 8))) || (decide (v2 < 0))) || (decide (v3 ≥ (p1.Lanes.length : Int))))) (roads_beforec p1 v4) (some default))).bind fun v5 => cond ((((((p2.length : Int) == 0) || (decide ((p2.length : Int) > 8))) || (decide (v2 < 0))) || (decide (v3 ≥ (p1.Lanes.length : Int)))) || (decide ((v5.length : Int) > 0))) (some 13) ((geti p2 0).bind fun v6 => (subl p2 1 (p2.length : Int)).bind fun v7 => thenS (loopF (roads_CheckRoute_l1c p1 v7) (v6, 0)) (fun _ => some 0) (fun r => some r)))
theorem roads_CheckRoute_le (p1 : Map) (p2 : (List Int)) : Le (roads_CheckRoutec p1 p2) (roads_CheckRoute p1 p2) := by
  unfold roads_CheckRoutec roads_CheckRoute
  repeat' first | with_reducible exact Le.refl _ | with_reducible exact roads_Check_le _ | with_reducible exact roads_before_le _ _ | with_reducible exact roads_CheckRoute_l1_le _ _ _ | with_reducible refine Le.bind ?_ fun _ => ?_ | with_reducible refine Le.cond ?_ ?_ | with_reducible refine Le.ite ?_ ?_ | with_reducible refine Le.thenS ?_ (fun _ => ?_) (fun _ => ?_) | with_reducible refine Le.loop (fun _ => ?_) _ | with_reducible refine Le.loopL (fun _ _ => ?_) _ _ | exact Le.refl _
def roads_follow_l1c (p1 : Map) (p2 : (List Int)) (x1 : (Int × RoadsWay)) : Option (Stp (Int × RoadsWay) RoadsWay) :=
  cond (decide (x1.1 < (p2.length : Int))) ((geti p2 x1.1).bind fun v2 => (appc x1.2.starts [x1.2.length]).bind fun v3 => (roads_longc p1 v2).bind fun v4 => some (.go ((w64 (x1.1 + 1)), (RoadsWay.mk x1.2.Map_ x1.2.lanes v3 (w64 (x1.2.length + v4)))))) (some (.out x1.2))
theorem roads_follow_l1_le (p1 : Map) (p2 : (List Int)) (x1 : (Int × RoadsWay)) : Le (roads_follow_l1c p1 p2 x1) (roads_follow_l1 p1 p2 x1) := by
  unfold roads_follow_l1c roads_follow_l1
  repeat' first | with_reducible exact Le.refl _ | with_reducible exact roads_long_le _ _ | with_reducible refine Le.bind ?_ fun _ => ?_ | with_reducible refine Le.cond ?_ ?_ | with_reducible refine Le.ite ?_ ?_ | with_reducible refine Le.thenS ?_ (fun _ => ?_) (fun _ => ?_) | with_reducible refine Le.loop (fun _ => ?_) _ | with_reducible refine Le.loopL (fun _ _ => ?_) _ _ | exact Le.refl _
def roads_followc (p1 : Map) (p2 : (List Int)) : Option RoadsWay :=
  (roads_CheckRoutec p1 p2).bind fun v1 => cond (v1 != 0) (some (RoadsWay.mk (Map.mk 0 [] [] [] []) [] [] 0)) ((loopF (roads_follow_l1c p1 p2) (0, (RoadsWay.mk p1 p2 [] 0))).bind fun y1 => some y1)
theorem roads_follow_le (p1 : Map) (p2 : (List Int)) : Le (roads_followc p1 p2) (roads_follow p1 p2) := by
  unfold roads_followc roads_follow
  repeat' first | with_reducible exact Le.refl _ | with_reducible exact roads_CheckRoute_le _ _ | with_reducible exact roads_follow_l1_le _ _ _ | with_reducible refine Le.bind ?_ fun _ => ?_ | with_reducible refine Le.cond ?_ ?_ | with_reducible refine Le.ite ?_ ?_ | with_reducible refine Le.thenS ?_ (fun _ => ?_) (fun _ => ?_) | with_reducible refine Le.loop (fun _ => ?_) _ | with_reducible refine Le.loopL (fun _ _ => ?_) _ _ | exact Le.refl _
def roads_Place_l1c (p3 : Int) (v1 : RoadsWay) (x1 : Int) : Option (Stp Int Int) :=
  (geti v1.starts x1).bind fun v3 => cond (decide (v3 > p3)) (some (.go (w64 (x1 - 1)))) (some (.out x1))
theorem roads_Place_l1_le (p3 : Int) (v1 : RoadsWay) (x1 : Int) : Le (roads_Place_l1c p3 v1 x1) (roads_Place_l1 p3 v1 x1) := by
  unfold roads_Place_l1c roads_Place_l1
  repeat' first | with_reducible exact Le.refl _ | with_reducible refine Le.bind ?_ fun _ => ?_ | with_reducible refine Le.cond ?_ ?_ | with_reducible refine Le.ite ?_ ?_ | with_reducible refine Le.thenS ?_ (fun _ => ?_) (fun _ => ?_) | with_reducible refine Le.loop (fun _ => ?_) _ | with_reducible refine Le.loopL (fun _ _ => ?_) _ _ | exact Le.refl _
def roads_Placec (p1 : Map) (p2 : (List Int)) (p3 : Int) : Option (Int × Int × Bool) :=
  (roads_followc p1 p2).bind fun v1 => ((cond (!((v1.lanes.length : Int) == 0)) (roads_withinc p3 0 v1.length) (some default))).bind fun v2 => cond (((v1.lanes.length : Int) == 0) || (!v2)) (some (0, 0, false)) ((loopF (roads_Place_l1c p3 v1) (w64 ((v1.lanes.length : Int) - 1))).bind fun y1 => (geti v1.lanes y1).bind fun v4 => (geti v1.starts y1).bind fun v5 => some (v4, (w64 (p3 - v5)), true))
theorem roads_Place_le (p1 : Map) (p2 : (List Int)) (p3 : Int) : Le (roads_Placec p1 p2 p3) (roads_Place p1 p2 p3) := by
  unfold roads_Placec roads_Place
  repeat' first | with_reducible exact Le.refl _ | with_reducible exact roads_follow_le _ _ | with_reducible exact roads_within_le _ _ _ | with_reducible exact roads_Place_l1_le _ _ _ | with_reducible refine Le.bind ?_ fun _ => ?_ | with_reducible refine Le.cond ?_ ?_ | with_reducible refine Le.ite ?_ ?_ | with_reducible refine Le.thenS ?_ (fun _ => ?_) (fun _ => ?_) | with_reducible refine Le.loop (fun _ => ?_) _ | with_reducible refine Le.loopL (fun _ _ => ?_) _ _ | exact Le.refl _
def roads_part_1_bc (p1 : Part) (p2 : Int) : Option Bool :=
  some (p1.Lane_ == p2)
theorem roads_part_1_b_le (p1 : Part) (p2 : Int) : Le (roads_part_1_bc p1 p2) (roads_part_1_b p1 p2) := by
  unfold roads_part_1_bc roads_part_1_b
  repeat' first | with_reducible exact Le.refl _ | with_reducible refine Le.bind ?_ fun _ => ?_ | with_reducible refine Le.cond ?_ ?_ | with_reducible refine Le.ite ?_ ?_ | with_reducible refine Le.thenS ?_ (fun _ => ?_) (fun _ => ?_) | with_reducible refine Le.loop (fun _ => ?_) _ | with_reducible refine Le.loopL (fun _ _ => ?_) _ _ | exact Le.refl _
def slices_IndexFunc_Part_Part_roads_part_1b_l1c (p1 : (List Part)) (p2 : Int) (x1 : Int) : Option (Stp Int (Sum Unit Int)) :=
  cond (decide (x1 < (p1.length : Int))) ((geti p1 x1).bind fun v1 => (roads_part_1_bc v1 p2).bind fun v2 => cond v2 (some (.out (.inr x1))) (some (.go (w64 (x1 + 1))))) (some (.out (.inl ())))
theorem slices_IndexFunc_Part_Part_roads_part_1b_l1_le (p1 : (List Part)) (p2 : Int) (x1 : Int) : Le (slices_IndexFunc_Part_Part_roads_part_1b_l1c p1 p2 x1) (slices_IndexFunc_Part_Part_roads_part_1b_l1 p1 p2 x1) := by
  unfold slices_IndexFunc_Part_Part_roads_part_1b_l1c slices_IndexFunc_Part_Part_roads_part_1b_l1
  repeat' first | with_reducible exact Le.refl _ | with_reducible exact roads_part_1_b_le _ _ | with_reducible refine Le.bind ?_ fun _ => ?_ | with_reducible refine Le.cond ?_ ?_ | with_reducible refine Le.ite ?_ ?_ | with_reducible refine Le.thenS ?_ (fun _ => ?_) (fun _ => ?_) | with_reducible refine Le.loop (fun _ => ?_) _ | with_reducible refine Le.loopL (fun _ _ => ?_) _ _ | exact Le.refl _
def slices_IndexFunc_Part_Part_roads_part_1bc (p1 : (List Part)) (p2 : Int) : Option Int :=
  thenS (loopF (slices_IndexFunc_Part_Part_roads_part_1b_l1c p1 p2) 0) (fun _ => some (-1)) (fun r => some r)
theorem slices_IndexFunc_Part_Part_roads_part_1b_le (p1 : (List Part)) (p2 : Int) : Le (slices_IndexFunc_Part_Part_roads_part_1bc p1 p2) (slices_IndexFunc_Part_Part_roads_part_1b p1 p2) := by
  unfold slices_IndexFunc_Part_Part_roads_part_1bc slices_IndexFunc_Part_Part_roads_part_1b
  repeat' first | with_reducible exact Le.refl _ | with_reducible exact slices_IndexFunc_Part_Part_roads_part_1b_l1_le _ _ _ | with_reducible refine Le.bind ?_ fun _ => ?_ | with_reducible refine Le.cond ?_ ?_ | with_reducible refine Le.ite ?_ ?_ | with_reducible refine Le.thenS ?_ (fun _ => ?_) (fun _ => ?_) | with_reducible refine Le.loop (fun _ => ?_) _ | with_reducible refine Le.loopL (fun _ _ => ?_) _ _ | exact Le.refl _
def roads_partc (p1 : Zone) (p2 : Int) : Option (Part × Bool) :=
  (slices_IndexFunc_Part_Part_roads_part_1bc p1.Parts p2).bind fun v1 => cond (decide (v1 < 0)) (some ((Part.mk 0 0 0 0), false)) ((geti p1.Parts v1).bind fun v2 => some (v2, true))
theorem roads_part_le (p1 : Zone) (p2 : Int) : Le (roads_partc p1 p2) (roads_part p1 p2) := by
  unfold roads_partc roads_part
  repeat' first | with_reducible exact Le.refl _ | with_reducible exact slices_IndexFunc_Part_Part_roads_part_1b_le _ _ | with_reducible refine Le.bind ?_ fun _ => ?_ | with_reducible refine Le.cond ?_ ?_ | with_reducible refine Le.ite ?_ ?_ | with_reducible refine Le.thenS ?_ (fun _ => ?_) (fun _ => ?_) | with_reducible refine Le.loop (fun _ => ?_) _ | with_reducible refine Le.loopL (fun _ _ => ?_) _ _ | exact Le.refl _
def roads_closed_l1c (p1 : Map) (p2 : Zone) (v2 : (List Int)) (x1 : Int) : Option (Stp Int (Sum Unit Bool)) :=
  cond (decide (x1 < (v2.length : Int))) ((geti v2 x1).bind fun v3 => (roads_partc p2 v3).bind fun v4 => ((cond (!(!v4.2)) (roads_longc p1 v3) (some default))).bind fun v5 => cond ((!v4.2) || (v4.1.To != v5)) (some (.out (.inr false))) (some (.go (w64 (x1 + 1))))) (some (.out (.inl ())))
theorem roads_closed_l1_le (p1 : Map) (p2 : Zone) (v2 : (List Int)) (x1 : Int) : Le (roads_closed_l1c p1 p2 v2 x1) (roads_closed_l1 p1 p2 v2 x1) := by
  unfold roads_closed_l1c roads_closed_l1
  repeat' first | with_reducible exact Le.refl _ | with_reducible exact roads_part_le _ _ | with_reducible exact roads_long_le _ _ | with_reducible refine Le.bind ?_ fun _ => ?_ | with_reducible refine Le.cond ?_ ?_ | with_reducible refine Le.ite ?_ ?_ | with_reducible refine Le.thenS ?_ (fun _ => ?_) (fun _ => ?_) | with_reducible refine Le.loop (fun _ => ?_) _ | with_reducible refine Le.loopL (fun _ _ => ?_) _ _ | exact Le.refl _
def roads_closedc (p1 : Map) (p2 : Zone) (p3 : Int) : Option Bool :=
  (roads_partc p2 p3).bind fun v1 => cond ((!v1.2) || (v1.1.From != 0)) (some false) ((roads_beforec p1 p3).bind fun v2 => thenS (loopF (roads_closed_l1c p1 p2 v2) 0) (fun _ => some true) (fun r => some r))
theorem roads_closed_le (p1 : Map) (p2 : Zone) (p3 : Int) : Le (roads_closedc p1 p2 p3) (roads_closed p1 p2 p3) := by
  unfold roads_closedc roads_closed
  repeat' first | with_reducible exact Le.refl _ | with_reducible exact roads_part_le _ _ | with_reducible exact roads_before_le _ _ | with_reducible exact roads_closed_l1_le _ _ _ _ | with_reducible refine Le.bind ?_ fun _ => ?_ | with_reducible refine Le.cond ?_ ?_ | with_reducible refine Le.ite ?_ ?_ | with_reducible refine Le.thenS ?_ (fun _ => ?_) (fun _ => ?_) | with_reducible refine Le.loop (fun _ => ?_) _ | with_reducible refine Le.loopL (fun _ _ => ?_) _ _ | exact Le.refl _
def roads_reach_l2c (x1 : (Int × (Int × Int × Int × Int × Int × Int × Int × Int × Int × Int × Int × Int))) (v1 : Lane) (x2 : (Int × (Int × Int × Int × Int × Int × Int × Int × Int × Int × Int × Int × Int))) : Option (Stp (Int × (Int × Int × Int × Int × Int × Int × Int × Int × Int × Int × Int × Int)) (Int × Int × Int × Int × Int × Int × Int × Int × Int × Int × Int × Int)) :=
  cond (decide (x2.1 < (v1.Next.length : Int))) ((geti v1.Next x2.1).bind fun v2 => (geti ([x2.2.1, x2.2.2.1, x2.2.2.2.1, x2.2.2.2.2.1, x2.2.2.2.2.2.1, x2.2.2.2.2.2.2.1, x2.2.2.2.2.2.2.2.1, x2.2.2.2.2.2.2.2.2.1, x2.2.2.2.2.2.2.2.2.2.1, x2.2.2.2.2.2.2.2.2.2.2.1, x2.2.2.2.2.2.2.2.2.2.2.2.1, x2.2.2.2.2.2.2.2.2.2.2.2.2] : List Int) x1.1).bind fun v3 => (geti ([x2.2.1, x2.2.2.1, x2.2.2.2.1, x2.2.2.2.2.1, x2.2.2.2.2.2.1, x2.2.2.2.2.2.2.1, x2.2.2.2.2.2.2.2.1, x2.2.2.2.2.2.2.2.2.1, x2.2.2.2.2.2.2.2.2.2.1, x2.2.2.2.2.2.2.2.2.2.2.1, x2.2.2.2.2.2.2.2.2.2.2.2.1, x2.2.2.2.2.2.2.2.2.2.2.2.2] : List Int) v2).bind fun v4 => (shlc .u32 1 (IntKind.wrap .u64 v2)).bind fun v5 => (geti ([x2.2.1, x2.2.2.1, x2.2.2.2.1, x2.2.2.2.2.1, x2.2.2.2.2.2.1, x2.2.2.2.2.2.2.1, x2.2.2.2.2.2.2.2.1, x2.2.2.2.2.2.2.2.2.1, x2.2.2.2.2.2.2.2.2.2.1, x2.2.2.2.2.2.2.2.2.2.2.1, x2.2.2.2.2.2.2.2.2.2.2.2.1, x2.2.2.2.2.2.2.2.2.2.2.2.2] : List Int) x1.1).bind fun v6 => (setc ([x2.2.1, x2.2.2.1, x2.2.2.2.1, x2.2.2.2.2.1, x2.2.2.2.2.2.1, x2.2.2.2.2.2.2.1, x2.2.2.2.2.2.2.2.1, x2.2.2.2.2.2.2.2.2.1, x2.2.2.2.2.2.2.2.2.2.1, x2.2.2.2.2.2.2.2.2.2.2.1, x2.2.2.2.2.2.2.2.2.2.2.2.1, x2.2.2.2.2.2.2.2.2.2.2.2.2] : List Int) x1.1 (IntKind.wrap .u32 (((BitVec.ofInt (IntKind.bits .u32) v3 |||(BitVec.ofInt (IntKind.bits .u32) (IntKind.wrap .u32 (((BitVec.ofInt (IntKind.bits .u32) v4 |||(BitVec.ofInt (IntKind.bits .u32) v5)).toNat : Nat))))).toNat : Nat)))).bind fun v7 => some (.go ((w64 (x2.1 + 1)), ((v7.getD 0 0), (v7.getD 1 0), (v7.getD 2 0), (v7.getD 3 0), (v7.getD 4 0), (v7.getD 5 0), (v7.getD 6 0), (v7.getD 7 0), (v7.getD 8 0), (v7.getD 9 0), (v7.getD 10 0), (v7.getD 11 0))))) (some (.out x2.2))
theorem roads_reach_l2_le (x1 : (Int × (Int × Int × Int × Int × Int × Int × Int × Int × Int × Int × Int × Int))) (v1 : Lane) (x2 : (Int × (Int × Int × Int × Int × Int × Int × Int × Int × Int × Int × Int × Int))) : Le (roads_reach_l2c x1 v1 x2) (roads_reach_l2 x1 v1 x2) := by
  unfold roads_reach_l2c roads_reach_l2
  repeat' first | with_reducible exact Le.refl _ | with_reducible refine Le.bind ?_ fun _ => ?_ | with_reducible refine Le.cond ?_ ?_ | with_reducible refine Le.ite ?_ ?_ | with_reducible refine Le.thenS ?_ (fun _ => ?_) (fun _ => ?_) | with_reducible refine Le.loop (fun _ => ?_) _ | with_reducible refine Le.loopL (fun _ _ => ?_) _ _ | exact Le.refl _
def roads_reach_l1c (p1 : Map) (x1 : (Int × (Int × Int × Int × Int × Int × Int × Int × Int × Int × Int × Int × Int))) : Option (Stp (Int × (Int × Int × Int × Int × Int × Int × Int × Int × Int × Int × Int × Int)) (Int × Int × Int × Int × Int × Int × Int × Int × Int × Int × Int × Int)) :=
  cond (decide (x1.1 ≥ 0)) ((geti p1.Lanes x1.1).bind fun v1 => (loopF (roads_reach_l2c x1 v1) (0, x1.2)).bind fun y2 => some (.go ((w64 (x1.1 - 1)), y2))) (some (.out x1.2))
theorem roads_reach_l1_le (p1 : Map) (x1 : (Int × (Int × Int × Int × Int × Int × Int × Int × Int × Int × Int × Int × Int))) : Le (roads_reach_l1c p1 x1) (roads_reach_l1 p1 x1) := by
  unfold roads_reach_l1c roads_reach_l1
  repeat' first | with_reducible exact Le.refl _ | with_reducible exact roads_reach_l2_le _ _ _ | with_reducible refine Le.bind ?_ fun _ => ?_ | with_reducible refine Le.cond ?_ ?_ | with_reducible refine Le.ite ?_ ?_ | with_reducible refine Le.thenS ?_ (fun _ => ?_) (fun _ => ?_) | with_reducible refine Le.loop (fun _ => ?_) _ | with_reducible refine Le.loopL (fun _ _ => ?_) _ _ | exact Le.refl _
def roads_reachc (p1 : Map) : Option (Int × Int × Int × Int × Int × Int × Int × Int × Int × Int × Int × Int) :=
  (loopF (roads_reach_l1c p1) ((w64 ((p1.Lanes.length : Int) - 1)), (0, 0, 0, 0, 0, 0, 0, 0, 0, 0, 0, 0))).bind fun y1 => some y1
theorem roads_reach_le (p1 : Map) : Le (roads_reachc p1) (roads_reach p1) := by
  unfold roads_reachc roads_reach
  repeat' first | with_reducible exact Le.refl _ | with_reducible exact roads_reach_l1_le _ _ | with_reducible refine Le.bind ?_ fun _ => ?_ | with_reducible refine Le.cond ?_ ?_ | with_reducible refine Le.ite ?_ ?_ | with_reducible refine Le.thenS ?_ (fun _ => ?_) (fun _ => ?_) | with_reducible refine Le.loop (fun _ => ?_) _ | with_reducible refine Le.loopL (fun _ _ => ?_) _ _ | exact Le.refl _
def roads_set_hasc (p1 : Int) (p2 : Int) : Option Bool :=
  (shrc .u32 p1 (IntKind.wrap .u64 p2)).bind fun v1 => some ((IntKind.wrap .u32 (((BitVec.ofInt (IntKind.bits .u32) v1 &&&(BitVec.ofInt (IntKind.bits .u32) 1)).toNat : Nat))) == 1)
theorem roads_set_has_le (p1 : Int) (p2 : Int) : Le (roads_set_hasc p1 p2) (roads_set_has p1 p2) := by
  unfold roads_set_hasc roads_set_has
  repeat' first | with_reducible exact Le.refl _ | with_reducible refine Le.bind ?_ fun _ => ?_ | with_reducible refine Le.cond ?_ ?_ | with_reducible refine Le.ite ?_ ?_ | with_reducible refine Le.thenS ?_ (fun _ => ?_) (fun _ => ?_) | with_reducible refine Le.loop (fun _ => ?_) _ | with_reducible refine Le.loopL (fun _ _ => ?_) _ _ | exact Le.refl _
def roads_entry_1_o_oc (p1 : Part) (p2 : (Int × Int × Int × Int × Int × Int × Int × Int × Int × Int × Int × Int)) (p3 : Int) : Option Bool :=
  (geti ([p2.1, p2.2.1, p2.2.2.1, p2.2.2.2.1, p2.2.2.2.2.1, p2.2.2.2.2.2.1, p2.2.2.2.2.2.2.1, p2.2.2.2.2.2.2.2.1, p2.2.2.2.2.2.2.2.2.1, p2.2.2.2.2.2.2.2.2.2.1, p2.2.2.2.2.2.2.2.2.2.2.1, p2.2.2.2.2.2.2.2.2.2.2.2] : List Int) p1.Lane_).bind fun v1 => (roads_set_hasc v1 p3).bind fun v2 => some v2
theorem roads_entry_1_o_o_le (p1 : Part) (p2 : (Int × Int × Int × Int × Int × Int × Int × Int × Int × Int × Int × Int)) (p3 : Int) : Le (roads_entry_1_o_oc p1 p2 p3) (roads_entry_1_o_o p1 p2 p3) := by
  unfold roads_entry_1_o_oc roads_entry_1_o_o
  repeat' first | with_reducible exact Le.refl _ | with_reducible exact roads_set_has_le _ _ | with_reducible refine Le.bind ?_ fun _ => ?_ | with_reducible refine Le.cond ?_ ?_ | with_reducible refine Le.ite ?_ ?_ | with_reducible refine Le.thenS ?_ (fun _ => ?_) (fun _ => ?_) | with_reducible refine Le.loop (fun _ => ?_) _ | with_reducible refine Le.loopL (fun _ _ => ?_) _ _ | exact Le.refl _
def slices_IndexFunc_Part_Part_roads_entry_1oo_l1c (p1 : (List Part)) (p2 : (Int × Int × Int × Int × Int × Int × Int × Int × Int × Int × Int × Int)) (p3 : Int) (x1 : Int) : Option (Stp Int (Sum Unit Int)) :=
  cond (decide (x1 < (p1.length : Int))) ((geti p1 x1).bind fun v1 => (roads_entry_1_o_oc v1 p2 p3).bind fun v2 => cond v2 (some (.out (.inr x1))) (some (.go (w64 (x1 + 1))))) (some (.out (.inl ())))
theorem slices_IndexFunc_Part_Part_roads_entry_1oo_l1_le (p1 : (List Part)) (p2 : (Int × Int × Int × Int × Int × Int × Int × Int × Int × Int × Int × Int)) (p3 : Int) (x1 : Int) : Le (slices_IndexFunc_Part_Part_roads_entry_1oo_l1c p1 p2 p3 x1) (slices_IndexFunc_Part_Part_roads_entry_1oo_l1 p1 p2 p3 x1) := by
  unfold slices_IndexFunc_Part_Part_roads_entry_1oo_l1c slices_IndexFunc_Part_Part_roads_entry_1oo_l1
  repeat' first | with_reducible exact Le.refl _ | with_reducible exact roads_entry_1_o_o_le _ _ _ | with_reducible refine Le.bind ?_ fun _ => ?_ | with_reducible refine Le.cond ?_ ?_ | with_reducible refine Le.ite ?_ ?_ | with_reducible refine Le.thenS ?_ (fun _ => ?_) (fun _ => ?_) | with_reducible refine Le.loop (fun _ => ?_) _ | with_reducible refine Le.loopL (fun _ _ => ?_) _ _ | exact Le.refl _
def slices_IndexFunc_Part_Part_roads_entry_1ooc (p1 : (List Part)) (p2 : (Int × Int × Int × Int × Int × Int × Int × Int × Int × Int × Int × Int)) (p3 : Int) : Option Int :=
  thenS (loopF (slices_IndexFunc_Part_Part_roads_entry_1oo_l1c p1 p2 p3) 0) (fun _ => some (-1)) (fun r => some r)
theorem slices_IndexFunc_Part_Part_roads_entry_1oo_le (p1 : (List Part)) (p2 : (Int × Int × Int × Int × Int × Int × Int × Int × Int × Int × Int × Int)) (p3 : Int) : Le (slices_IndexFunc_Part_Part_roads_entry_1ooc p1 p2 p3) (slices_IndexFunc_Part_Part_roads_entry_1oo p1 p2 p3) := by
  unfold slices_IndexFunc_Part_Part_roads_entry_1ooc slices_IndexFunc_Part_Part_roads_entry_1oo
  repeat' first | with_reducible exact Le.refl _ | with_reducible exact slices_IndexFunc_Part_Part_roads_entry_1oo_l1_le _ _ _ _ | with_reducible refine Le.bind ?_ fun _ => ?_ | with_reducible refine Le.cond ?_ ?_ | with_reducible refine Le.ite ?_ ?_ | with_reducible refine Le.thenS ?_ (fun _ => ?_) (fun _ => ?_) | with_reducible refine Le.loop (fun _ => ?_) _ | with_reducible refine Le.loopL (fun _ _ => ?_) _ _ | exact Le.refl _
def slices_ContainsFunc_Part_Part_roads_entry_1ooc (p1 : (List Part)) (p2 : (Int × Int × Int × Int × Int × Int × Int × Int × Int × Int × Int × Int)) (p3 : Int) : Option Bool :=
  (slices_IndexFunc_Part_Part_roads_entry_1ooc p1 p2 p3).bind fun v1 => some (decide (v1 ≥ 0))
theorem slices_ContainsFunc_Part_Part_roads_entry_1oo_le (p1 : (List Part)) (p2 : (Int × Int × Int × Int × Int × Int × Int × Int × Int × Int × Int × Int)) (p3 : Int) : Le (slices_ContainsFunc_Part_Part_roads_entry_1ooc p1 p2 p3) (slices_ContainsFunc_Part_Part_roads_entry_1oo p1 p2 p3) := by
  unfold slices_ContainsFunc_Part_Part_roads_entry_1ooc slices_ContainsFunc_Part_Part_roads_entry_1oo
  repeat' first | with_reducible exact Le.refl _ | with_reducible exact slices_IndexFunc_Part_Part_roads_entry_1oo_le _ _ _ | with_reducible refine Le.bind ?_ fun _ => ?_ | with_reducible refine Le.cond ?_ ?_ | with_reducible refine Le.ite ?_ ?_ | with_reducible refine Le.thenS ?_ (fun _ => ?_) (fun _ => ?_) | with_reducible refine Le.loop (fun _ => ?_) _ | with_reducible refine Le.loopL (fun _ _ => ?_) _ _ | exact Le.refl _
def roads_entryc (p1 : Map) (p2 : Zone) (p3 : Int) : Option Bool :=
  (roads_reachc p1).bind fun v1 => (slices_ContainsFunc_Part_Part_roads_entry_1ooc p2.Parts v1 p3).bind fun v2 => some (!v2)
theorem roads_entry_le (p1 : Map) (p2 : Zone) (p3 : Int) : Le (roads_entryc p1 p2 p3) (roads_entry p1 p2 p3) := by
  unfold roads_entryc roads_entry
  repeat' first | with_reducible exact Le.refl _ | with_reducible exact roads_reach_le _ | with_reducible exact slices_ContainsFunc_Part_Part_roads_entry_1oo_le _ _ _ | with_reducible refine Le.bind ?_ fun _ => ?_ | with_reducible refine Le.cond ?_ ?_ | with_reducible refine Le.ite ?_ ?_ | with_reducible refine Le.thenS ?_ (fun _ => ?_) (fun _ => ?_) | with_reducible refine Le.loop (fun _ => ?_) _ | with_reducible refine Le.loopL (fun _ _ => ?_) _ _ | exact Le.refl _
def roads_merges_1_1_b_bc (p1 : Int) (p2 : Map) (p3 : Zone) : Option Bool :=
  (roads_entryc p2 p3 p1).bind fun v1 => some (!v1)
theorem roads_merges_1_1_b_b_le (p1 : Int) (p2 : Map) (p3 : Zone) : Le (roads_merges_1_1_b_bc p1 p2 p3) (roads_merges_1_1_b_b p1 p2 p3) := by
  unfold roads_merges_1_1_b_bc roads_merges_1_1_b_b
  repeat' first | with_reducible exact Le.refl _ | with_reducible exact roads_entry_le _ _ _ | with_reducible refine Le.bind ?_ fun _ => ?_ | with_reducible refine Le.cond ?_ ?_ | with_reducible refine Le.ite ?_ ?_ | with_reducible refine Le.thenS ?_ (fun _ => ?_) (fun _ => ?_) | with_reducible refine Le.loop (fun _ => ?_) _ | with_reducible refine Le.loopL (fun _ _ => ?_) _ _ | exact Le.refl _
def slices_IndexFunc_int_int_roads_merges_1_1bb_l1c (p1 : (List Int)) (p2 : Map) (p3 : Zone) (x1 : Int) : Option (Stp Int (Sum Unit Int)) :=
  cond (decide (x1 < (p1.length : Int))) ((geti p1 x1).bind fun v1 => (roads_merges_1_1_b_bc v1 p2 p3).bind fun v2 => cond v2 (some (.out (.inr x1))) (some (.go (w64 (x1 + 1))))) (some (.out (.inl ())))
theorem slices_IndexFunc_int_int_roads_merges_1_1bb_l1_le (p1 : (List Int)) (p2 : Map) (p3 : Zone) (x1 : Int) : Le (slices_IndexFunc_int_int_roads_merges_1_1bb_l1c p1 p2 p3 x1) (slices_IndexFunc_int_int_roads_merges_1_1bb_l1 p1 p2 p3 x1) := by
  unfold slices_IndexFunc_int_int_roads_merges_1_1bb_l1c slices_IndexFunc_int_int_roads_merges_1_1bb_l1
  repeat' first | with_reducible exact Le.refl _ | with_reducible exact roads_merges_1_1_b_b_le _ _ _ | with_reducible refine Le.bind ?_ fun _ => ?_ | with_reducible refine Le.cond ?_ ?_ | with_reducible refine Le.ite ?_ ?_ | with_reducible refine Le.thenS ?_ (fun _ => ?_) (fun _ => ?_) | with_reducible refine Le.loop (fun _ => ?_) _ | with_reducible refine Le.loopL (fun _ _ => ?_) _ _ | exact Le.refl _
def slices_IndexFunc_int_int_roads_merges_1_1bbc (p1 : (List Int)) (p2 : Map) (p3 : Zone) : Option Int :=
  thenS (loopF (slices_IndexFunc_int_int_roads_merges_1_1bb_l1c p1 p2 p3) 0) (fun _ => some (-1)) (fun r => some r)
theorem slices_IndexFunc_int_int_roads_merges_1_1bb_le (p1 : (List Int)) (p2 : Map) (p3 : Zone) : Le (slices_IndexFunc_int_int_roads_merges_1_1bbc p1 p2 p3) (slices_IndexFunc_int_int_roads_merges_1_1bb p1 p2 p3) := by
  unfold slices_IndexFunc_int_int_roads_merges_1_1bbc slices_IndexFunc_int_int_roads_merges_1_1bb
  repeat' first | with_reducible exact Le.refl _ | with_reducible exact slices_IndexFunc_int_int_roads_merges_1_1bb_l1_le _ _ _ _ | with_reducible refine Le.bind ?_ fun _ => ?_ | with_reducible refine Le.cond ?_ ?_ | with_reducible refine Le.ite ?_ ?_ | with_reducible refine Le.thenS ?_ (fun _ => ?_) (fun _ => ?_) | with_reducible refine Le.loop (fun _ => ?_) _ | with_reducible refine Le.loopL (fun _ _ => ?_) _ _ | exact Le.refl _
def slices_ContainsFunc_int_int_roads_merges_1_1bbc (p1 : (List Int)) (p2 : Map) (p3 : Zone) : Option Bool :=
  (slices_IndexFunc_int_int_roads_merges_1_1bbc p1 p2 p3).bind fun v1 => some (decide (v1 ≥ 0))
theorem slices_ContainsFunc_int_int_roads_merges_1_1bb_le (p1 : (List Int)) (p2 : Map) (p3 : Zone) : Le (slices_ContainsFunc_int_int_roads_merges_1_1bbc p1 p2 p3) (slices_ContainsFunc_int_int_roads_merges_1_1bb p1 p2 p3) := by
  unfold slices_ContainsFunc_int_int_roads_merges_1_1bbc slices_ContainsFunc_int_int_roads_merges_1_1bb
  repeat' first | with_reducible exact Le.refl _ | with_reducible exact slices_IndexFunc_int_int_roads_merges_1_1bb_le _ _ _ | with_reducible refine Le.bind ?_ fun _ => ?_ | with_reducible refine Le.cond ?_ ?_ | with_reducible refine Le.ite ?_ ?_ | with_reducible refine Le.thenS ?_ (fun _ => ?_) (fun _ => ?_) | with_reducible refine Le.loop (fun _ => ?_) _ | with_reducible refine Le.loopL (fun _ _ => ?_) _ _ | exact Le.refl _
def roads_merges_1_b_b_bc (p1 : Zone) (p2 : Map) (p3 : Int) (p4 : (List Int)) : Option Bool :=
  (roads_closedc p2 p1 p3).bind fun v1 => ((cond v1 (slices_ContainsFunc_int_int_roads_merges_1_1bbc p4 p2 p1) (some default))).bind fun v2 => some (v1 && (!v2))
theorem roads_merges_1_b_b_b_le (p1 : Zone) (p2 : Map) (p3 : Int) (p4 : (List Int)) : Le (roads_merges_1_b_b_bc p1 p2 p3 p4) (roads_merges_1_b_b_b p1 p2 p3 p4) := by
  unfold roads_merges_1_b_b_bc roads_merges_1_b_b_b
  repeat' first | with_reducible exact Le.refl _ | with_reducible exact roads_closed_le _ _ _ | with_reducible exact slices_ContainsFunc_int_int_roads_merges_1_1bb_le _ _ _ | with_reducible refine Le.bind ?_ fun _ => ?_ | with_reducible refine Le.cond ?_ ?_ | with_reducible refine Le.ite ?_ ?_ | with_reducible refine Le.thenS ?_ (fun _ => ?_) (fun _ => ?_) | with_reducible refine Le.loop (fun _ => ?_) _ | with_reducible refine Le.loopL (fun _ _ => ?_) _ _ | exact Le.refl _
def slices_IndexFunc_Zone_Zone_roads_merges_1bbb_l1c (p1 : (List Zone)) (p2 : Map) (p3 : Int) (p4 : (List Int)) (x1 : Int) : Option (Stp Int (Sum Unit Int)) :=
  cond (decide (x1 < (p1.length : Int))) ((geti p1 x1).bind fun v1 => (roads_merges_1_b_b_bc v1 p2 p3 p4).bind fun v2 => cond v2 (some (.out (.inr x1))) (some (.go (w64 (x1 + 1))))) (some (.out (.inl ())))
theorem slices_IndexFunc_Zone_Zone_roads_merges_1bbb_l1_le (p1 : (List Zone)) (p2 : Map) (p3 : Int) (p4 : (List Int)) (x1 : Int) : Le (slices_IndexFunc_Zone_Zone_roads_merges_1bbb_l1c p1 p2 p3 p4 x1) (slices_IndexFunc_Zone_Zone_roads_merges_1bbb_l1 p1 p2 p3 p4 x1) := by
  unfold slices_IndexFunc_Zone_Zone_roads_merges_1bbb_l1c slices_IndexFunc_Zone_Zone_roads_merges_1bbb_l1
  repeat' first | with_reducible exact Le.refl _ | with_reducible exact roads_merges_1_b_b_b_le _ _ _ _ | with_reducible refine Le.bind ?_ fun _ => ?_ | with_reducible refine Le.cond ?_ ?_ | with_reducible refine Le.ite ?_ ?_ | with_reducible refine Le.thenS ?_ (fun _ => ?_) (fun _ => ?_) | with_reducible refine Le.loop (fun _ => ?_) _ | with_reducible refine Le.loopL (fun _ _ => ?_) _ _ | exact Le.refl _
def slices_IndexFunc_Zone_Zone_roads_merges_1bbbc (p1 : (List Zone)) (p2 : Map) (p3 : Int) (p4 : (List Int)) : Option Int :=
  thenS (loopF (slices_IndexFunc_Zone_Zone_roads_merges_1bbb_l1c p1 p2 p3 p4) 0) (fun _ => some (-1)) (fun r => some r)
theorem slices_IndexFunc_Zone_Zone_roads_merges_1bbb_le (p1 : (List Zone)) (p2 : Map) (p3 : Int) (p4 : (List Int)) : Le (slices_IndexFunc_Zone_Zone_roads_merges_1bbbc p1 p2 p3 p4) (slices_IndexFunc_Zone_Zone_roads_merges_1bbb p1 p2 p3 p4) := by
  unfold slices_IndexFunc_Zone_Zone_roads_merges_1bbbc slices_IndexFunc_Zone_Zone_roads_merges_1bbb
  repeat' first | with_reducible exact Le.refl _ | with_reducible exact slices_IndexFunc_Zone_Zone_roads_merges_1bbb_l1_le _ _ _ _ _ | with_reducible refine Le.bind ?_ fun _ => ?_ | with_reducible refine Le.cond ?_ ?_ | with_reducible refine Le.ite ?_ ?_ | with_reducible refine Le.thenS ?_ (fun _ => ?_) (fun _ => ?_) | with_reducible refine Le.loop (fun _ => ?_) _ | with_reducible refine Le.loopL (fun _ _ => ?_) _ _ | exact Le.refl _
def slices_ContainsFunc_Zone_Zone_roads_merges_1bbbc (p1 : (List Zone)) (p2 : Map) (p3 : Int) (p4 : (List Int)) : Option Bool :=
  (slices_IndexFunc_Zone_Zone_roads_merges_1bbbc p1 p2 p3 p4).bind fun v1 => some (decide (v1 ≥ 0))
theorem slices_ContainsFunc_Zone_Zone_roads_merges_1bbb_le (p1 : (List Zone)) (p2 : Map) (p3 : Int) (p4 : (List Int)) : Le (slices_ContainsFunc_Zone_Zone_roads_merges_1bbbc p1 p2 p3 p4) (slices_ContainsFunc_Zone_Zone_roads_merges_1bbb p1 p2 p3 p4) := by
  unfold slices_ContainsFunc_Zone_Zone_roads_merges_1bbbc slices_ContainsFunc_Zone_Zone_roads_merges_1bbb
  repeat' first | with_reducible exact Le.refl _ | with_reducible exact slices_IndexFunc_Zone_Zone_roads_merges_1bbb_le _ _ _ _ | with_reducible refine Le.bind ?_ fun _ => ?_ | with_reducible refine Le.cond ?_ ?_ | with_reducible refine Le.ite ?_ ?_ | with_reducible refine Le.thenS ?_ (fun _ => ?_) (fun _ => ?_) | with_reducible refine Le.loop (fun _ => ?_) _ | with_reducible refine Le.loopL (fun _ _ => ?_) _ _ | exact Le.refl _
def roads_merges_l1c (p1 : Map) (x1 : ((List Clash) × Int)) : Option (Stp ((List Clash) × Int) (List Clash)) :=
  cond (decide (x1.2 < (p1.Lanes.length : Int))) ((roads_beforec p1 x1.2).bind fun v1 => (slices_ContainsFunc_Zone_Zone_roads_merges_1bbbc p1.Zones p1 x1.2 v1).bind fun v2 => cond ((decide ((v1.length : Int) > 1)) && (!v2)) ((appc x1.1 [(Clash.mk 1 (-1) x1.2 (-1))]).bind fun v3 => some (.go (v3, (w64 (x1.2 + 1))))) (some (.go (x1.1, (w64 (x1.2 + 1)))))) (some (.out x1.1))
theorem roads_merges_l1_le (p1 : Map) (x1 : ((List Clash) × Int)) : Le (roads_merges_l1c p1 x1) (roads_merges_l1 p1 x1) := by
  unfold roads_merges_l1c roads_merges_l1
  repeat' first | with_reducible exact Le.refl _ | with_reducible exact roads_before_le _ _ | with_reducible exact slices_ContainsFunc_Zone_Zone_roads_merges_1bbb_le _ _ _ _ | with_reducible refine Le.bind ?_ fun _ => ?_ | with_reducible refine Le.cond ?_ ?_ | with_reducible refine Le.ite ?_ ?_ | with_reducible refine Le.thenS ?_ (fun _ => ?_) (fun _ => ?_) | with_reducible refine Le.loop (fun _ => ?_) _ | with_reducible refine Le.loopL (fun _ _ => ?_) _ _ | exact Le.refl _
def roads_mergesc (p1 : Map) : Option (List Clash) :=
  (loopF (roads_merges_l1c p1) ([], 0)).bind fun y1 => some y1
theorem roads_merges_le (p1 : Map) : Le (roads_mergesc p1) (roads_merges p1) := by
  unfold roads_mergesc roads_merges
  repeat' first | with_reducible exact Le.refl _ | with_reducible exact roads_merges_l1_le _ _ | with_reducible refine Le.bind ?_ fun _ => ?_ | with_reducible refine Le.cond ?_ ?_ | with_reducible refine Le.ite ?_ ?_ | with_reducible refine Le.thenS ?_ (fun _ => ?_) (fun _ => ?_) | with_reducible refine Le.loop (fun _ => ?_) _ | with_reducible refine Le.loopL (fun _ _ => ?_) _ _ | exact Le.refl _
def roads_chains_l2c (p1 : Map) (x1 : ((List Clash) × Int)) (v1 : Zone) (x2 : ((List Clash) × Int)) : Option (Stp ((List Clash) × Int) (List Clash)) :=
  cond (decide (x2.2 < (v1.Parts.length : Int))) ((geti v1.Parts x2.2).bind fun v2 => (roads_entryc p1 v1 v2.Lane_).bind fun v3 => ((cond (!v3) (roads_closedc p1 v1 v2.Lane_) (some default))).bind fun v4 => cond ((!v3) && (!v4)) ((appc x2.1 [(Clash.mk 2 x1.2 v2.Lane_ (-1))]).bind fun v5 => some (.go (v5, (w64 (x2.2 + 1))))) (some (.go (x2.1, (w64 (x2.2 + 1)))))) (some (.out x2.1))
theorem roads_chains_l2_le (p1 : Map) (x1 : ((List Clash) × Int)) (v1 : Zone) (x2 : ((List Clash) × Int)) : Le (roads_chains_l2c p1 x1 v1 x2) (roads_chains_l2 p1 x1 v1 x2) := by
  unfold roads_chains_l2c roads_chains_l2
  repeat' first | with_reducible exact Le.refl _ | with_reducible exact roads_entry_le _ _ _ | with_reducible exact roads_closed_le _ _ _ | with_reducible refine Le.bind ?_ fun _ => ?_ | with_reducible refine Le.cond ?_ ?_ | with_reducible refine Le.ite ?_ ?_ | with_reducible refine Le.thenS ?_ (fun _ => ?_) (fun _ => ?_) | with_reducible refine Le.loop (fun _ => ?_) _ | with_reducible refine Le.loopL (fun _ _ => ?_) _ _ | exact Le.refl _
def roads_chains_l1c (p1 : Map) (x1 : ((List Clash) × Int)) : Option (Stp ((List Clash) × Int) (List Clash)) :=
  cond (decide (x1.2 < (p1.Zones.length : Int))) ((geti p1.Zones x1.2).bind fun v1 => (loopF (roads_chains_l2c p1 x1 v1) (x1.1, 0)).bind fun y2 => some (.go (y2, (w64 (x1.2 + 1))))) (some (.out x1.1))
theorem roads_chains_l1_le (p1 : Map) (x1 : ((List Clash) × Int)) : Le (roads_chains_l1c p1 x1) (roads_chains_l1 p1 x1) := by
  unfold roads_chains_l1c roads_chains_l1
  repeat' first | with_reducible exact Le.refl _ | with_reducible exact roads_chains_l2_le _ _ _ _ | with_reducible refine Le.bind ?_ fun _ => ?_ | with_reducible refine Le.cond ?_ ?_ | with_reducible refine Le.ite ?_ ?_ | with_reducible refine Le.thenS ?_ (fun _ => ?_) (fun _ => ?_) | with_reducible refine Le.loop (fun _ => ?_) _ | with_reducible refine Le.loopL (fun _ _ => ?_) _ _ | exact Le.refl _
def roads_chainsc (p1 : Map) : Option (List Clash) :=
  (loopF (roads_chains_l1c p1) ([], 0)).bind fun y1 => some y1
theorem roads_chains_le (p1 : Map) : Le (roads_chainsc p1) (roads_chains p1) := by
  unfold roads_chainsc roads_chains
  repeat' first | with_reducible exact Le.refl _ | with_reducible exact roads_chains_l1_le _ _ | with_reducible refine Le.bind ?_ fun _ => ?_ | with_reducible refine Le.cond ?_ ?_ | with_reducible refine Le.ite ?_ ?_ | with_reducible refine Le.thenS ?_ (fun _ => ?_) (fun _ => ?_) | with_reducible refine Le.loop (fun _ => ?_) _ | with_reducible refine Le.loopL (fun _ _ => ?_) _ _ | exact Le.refl _
def roads_entries_l1c (p1 : Map) (p2 : Zone) (x1 : ((List Int) × Int)) : Option (Stp ((List Int) × Int) (List Int)) :=
  cond (decide (x1.2 < (p2.Parts.length : Int))) ((geti p2.Parts x1.2).bind fun v1 => (roads_entryc p1 p2 v1.Lane_).bind fun v2 => cond v2 ((appc x1.1 [v1.Lane_]).bind fun v3 => some (.go (v3, (w64 (x1.2 + 1))))) (some (.go (x1.1, (w64 (x1.2 + 1)))))) (some (.out x1.1))
theorem roads_entries_l1_le (p1 : Map) (p2 : Zone) (x1 : ((List Int) × Int)) : Le (roads_entries_l1c p1 p2 x1) (roads_entries_l1 p1 p2 x1) := by
  unfold roads_entries_l1c roads_entries_l1
  repeat' first | with_reducible exact Le.refl _ | with_reducible exact roads_entry_le _ _ _ | with_reducible refine Le.bind ?_ fun _ => ?_ | with_reducible refine Le.cond ?_ ?_ | with_reducible refine Le.ite ?_ ?_ | with_reducible refine Le.thenS ?_ (fun _ => ?_) (fun _ => ?_) | with_reducible refine Le.loop (fun _ => ?_) _ | with_reducible refine Le.loopL (fun _ _ => ?_) _ _ | exact Le.refl _
def roads_entriesc (p1 : Map) (p2 : Zone) : Option (List Int) :=
  (loopF (roads_entries_l1c p1 p2) ([], 0)).bind fun y1 => some y1
theorem roads_entries_le (p1 : Map) (p2 : Zone) : Le (roads_entriesc p1 p2) (roads_entries p1 p2) := by
  unfold roads_entriesc roads_entries
  repeat' first | with_reducible exact Le.refl _ | with_reducible exact roads_entries_l1_le _ _ _ | with_reducible refine Le.bind ?_ fun _ => ?_ | with_reducible refine Le.cond ?_ ?_ | with_reducible refine Le.ite ?_ ?_ | with_reducible refine Le.thenS ?_ (fun _ => ?_) (fun _ => ?_) | with_reducible refine Le.loop (fun _ => ?_) _ | with_reducible refine Le.loopL (fun _ _ => ?_) _ _ | exact Le.refl _
def roads_ranks_1c (p1 : Zone) (p2 : Int) (p3 : Int) : Option Bool :=
  (roads_partc p1 p2).bind fun v1 => (roads_partc p1 p3).bind fun v2 => some ((p1.Signal_ == 0) && (v1.1.Rank == v2.1.Rank))
theorem roads_ranks_1_le (p1 : Zone) (p2 : Int) (p3 : Int) : Le (roads_ranks_1c p1 p2 p3) (roads_ranks_1 p1 p2 p3) := by
  unfold roads_ranks_1c roads_ranks_1
  repeat' first | with_reducible exact Le.refl _ | with_reducible exact roads_part_le _ _ | with_reducible refine Le.bind ?_ fun _ => ?_ | with_reducible refine Le.cond ?_ ?_ | with_reducible refine Le.ite ?_ ?_ | with_reducible refine Le.thenS ?_ (fun _ => ?_) (fun _ => ?_) | with_reducible refine Le.loop (fun _ => ?_) _ | with_reducible refine Le.loopL (fun _ _ => ?_) _ _ | exact Le.refl _
def roads_pairs_roads_ranks_1_l3c (p2 : Int) (x1 : ((List Clash) × Int)) (v1 : Zone) (v3 : Int) (v4 : List Int) (x3 : ((List Clash) × Int)) : Option (Stp ((List Clash) × Int) (List Clash)) :=
  cond (decide (x3.2 < (v4.length : Int))) ((geti v4 x3.2).bind fun v5 => (roads_ranks_1c v1 v3 v5).bind fun v6 => cond v6 ((appc x3.1 [(Clash.mk p2 x1.2 v3 v5)]).bind fun v7 => some (.go (v7, (w64 (x3.2 + 1))))) (some (.go (x3.1, (w64 (x3.2 + 1)))))) (some (.out x3.1))
theorem roads_pairs_roads_ranks_1_l3_le (p2 : Int) (x1 : ((List Clash) × Int)) (v1 : Zone) (v3 : Int) (v4 : List Int) (x3 : ((List Clash) × Int)) : Le (roads_pairs_roads_ranks_1_l3c p2 x1 v1 v3 v4 x3) (roads_pairs_roads_ranks_1_l3 p2 x1 v1 v3 v4 x3) := by
  unfold roads_pairs_roads_ranks_1_l3c roads_pairs_roads_ranks_1_l3
  repeat' first | with_reducible exact Le.refl _ | with_reducible exact roads_ranks_1_le _ _ _ | with_reducible refine Le.bind ?_ fun _ => ?_ | with_reducible refine Le.cond ?_ ?_ | with_reducible refine Le.ite ?_ ?_ | with_reducible refine Le.thenS ?_ (fun _ => ?_) (fun _ => ?_) | with_reducible refine Le.loop (fun _ => ?_) _ | with_reducible refine Le.loopL (fun _ _ => ?_) _ _ | exact Le.refl _
def roads_pairs_roads_ranks_1_l2c (p2 : Int) (x1 : ((List Clash) × Int)) (v1 : Zone) (v2 : (List Int)) (x2 : ((List Clash) × Int)) : Option (Stp ((List Clash) × Int) (List Clash)) :=
  cond (decide (x2.2 < (v2.length : Int))) ((geti v2 x2.2).bind fun v3 => (subl v2 (w64 (x2.2 + 1)) (v2.length : Int)).bind fun v4 => (loopF (roads_pairs_roads_ranks_1_l3c p2 x1 v1 v3 v4) (x2.1, 0)).bind fun y3 => some (.go (y3, (w64 (x2.2 + 1))))) (some (.out x2.1))
theorem roads_pairs_roads_ranks_1_l2_le (p2 : Int) (x1 : ((List Clash) × Int)) (v1 : Zone) (v2 : (List Int)) (x2 : ((List Clash) × Int)) : Le (roads_pairs_roads_ranks_1_l2c p2 x1 v1 v2 x2) (roads_pairs_roads_ranks_1_l2 p2 x1 v1 v2 x2) := by
  unfold roads_pairs_roads_ranks_1_l2c roads_pairs_roads_ranks_1_l2
  repeat' first | with_reducible exact Le.refl _ | with_reducible exact roads_pairs_roads_ranks_1_l3_le _ _ _ _ _ _ | with_reducible refine Le.bind ?_ fun _ => ?_ | with_reducible refine Le.cond ?_ ?_ | with_reducible refine Le.ite ?_ ?_ | with_reducible refine Le.thenS ?_ (fun _ => ?_) (fun _ => ?_) | with_reducible refine Le.loop (fun _ => ?_) _ | with_reducible refine Le.loopL (fun _ _ => ?_) _ _ | exact Le.refl _
def roads_pairs_roads_ranks_1_l1c (p1 : Map) (p2 : Int) (x1 : ((List Clash) × Int)) : Option (Stp ((List Clash) × Int) (List Clash)) :=
  cond (decide (x1.2 < (p1.Zones.length : Int))) ((geti p1.Zones x1.2).bind fun v1 => (roads_entriesc p1 v1).bind fun v2 => (loopF (roads_pairs_roads_ranks_1_l2c p2 x1 v1 v2) (x1.1, 0)).bind fun y2 => some (.go (y2, (w64 (x1.2 + 1))))) (some (.out x1.1))
theorem roads_pairs_roads_ranks_1_l1_le (p1 : Map) (p2 : Int) (x1 : ((List Clash) × Int)) : Le (roads_pairs_roads_ranks_1_l1c p1 p2 x1) (roads_pairs_roads_ranks_1_l1 p1 p2 x1) := by
  unfold roads_pairs_roads_ranks_1_l1c roads_pairs_roads_ranks_1_l1
  repeat' first | with_reducible exact Le.refl _ | with_reducible exact roads_entries_le _ _ | with_reducible exact roads_pairs_roads_ranks_1_l2_le _ _ _ _ _ | with_reducible refine Le.bind ?_ fun _ => ?_ | with_reducible refine Le.cond ?_ ?_ | with_reducible refine Le.ite ?_ ?_ | with_reducible refine Le.thenS ?_ (fun _ => ?_) (fun _ => ?_) | with_reducible refine Le.loop (fun _ => ?_) _ | with_reducible refine Le.loopL (fun _ _ => ?_) _ _ | exact Le.refl _
def roads_pairs_roads_ranks_1c (p1 : Map) (p2 : Int) : Option (List Clash) :=
  (loopF (roads_pairs_roads_ranks_1_l1c p1 p2) ([], 0)).bind fun y1 => some y1
theorem roads_pairs_roads_ranks_1_le (p1 : Map) (p2 : Int) : Le (roads_pairs_roads_ranks_1c p1 p2) (roads_pairs_roads_ranks_1 p1 p2) := by
  unfold roads_pairs_roads_ranks_1c roads_pairs_roads_ranks_1
  repeat' first | with_reducible exact Le.refl _ | with_reducible exact roads_pairs_roads_ranks_1_l1_le _ _ _ | with_reducible refine Le.bind ?_ fun _ => ?_ | with_reducible refine Le.cond ?_ ?_ | with_reducible refine Le.ite ?_ ?_ | with_reducible refine Le.thenS ?_ (fun _ => ?_) (fun _ => ?_) | with_reducible refine Le.loop (fun _ => ?_) _ | with_reducible refine Le.loopL (fun _ _ => ?_) _ _ | exact Le.refl _
def roads_ranksc (p1 : Map) : Option (List Clash) :=
  (roads_pairs_roads_ranks_1c p1 3).bind fun v1 => some v1
theorem roads_ranks_le (p1 : Map) : Le (roads_ranksc p1) (roads_ranks p1) := by
  unfold roads_ranksc roads_ranks
  repeat' first | with_reducible exact Le.refl _ | with_reducible exact roads_pairs_roads_ranks_1_le _ _ | with_reducible refine Le.bind ?_ fun _ => ?_ | with_reducible refine Le.cond ?_ ?_ | with_reducible refine Le.ite ?_ ?_ | with_reducible refine Le.thenS ?_ (fun _ => ?_) (fun _ => ?_) | with_reducible refine Le.loop (fun _ => ?_) _ | with_reducible refine Le.loopL (fun _ _ => ?_) _ _ | exact Le.refl _
def roads_greens_1_1_b_bc (p1 : Phase) (p2 : Int) (p3 : Int) : Option Bool :=
  (slices_Contains_int_intc p1.Green p2).bind fun v1 => ((cond v1 (slices_Contains_int_intc p1.Green p3) (some default))).bind fun v2 => some (v1 && v2)
theorem roads_greens_1_1_b_b_le (p1 : Phase) (p2 : Int) (p3 : Int) : Le (roads_greens_1_1_b_bc p1 p2 p3) (roads_greens_1_1_b_b p1 p2 p3) := by
  unfold roads_greens_1_1_b_bc roads_greens_1_1_b_b
  repeat' first | with_reducible exact Le.refl _ | with_reducible exact slices_Contains_int_int_le _ _ | with_reducible refine Le.bind ?_ fun _ => ?_ | with_reducible refine Le.cond ?_ ?_ | with_reducible refine Le.ite ?_ ?_ | with_reducible refine Le.thenS ?_ (fun _ => ?_) (fun _ => ?_) | with_reducible refine Le.loop (fun _ => ?_) _ | with_reducible refine Le.loopL (fun _ _ => ?_) _ _ | exact Le.refl _
def slices_IndexFunc_Phase_Phase_roads_greens_1_1bb_l1c (p1 : (List Phase)) (p2 : Int) (p3 : Int) (x1 : Int) : Option (Stp Int (Sum Unit Int)) :=
  cond (decide (x1 < (p1.length : Int))) ((geti p1 x1).bind fun v1 => (roads_greens_1_1_b_bc v1 p2 p3).bind fun v2 => cond v2 (some (.out (.inr x1))) (some (.go (w64 (x1 + 1))))) (some (.out (.inl ())))
theorem slices_IndexFunc_Phase_Phase_roads_greens_1_1bb_l1_le (p1 : (List Phase)) (p2 : Int) (p3 : Int) (x1 : Int) : Le (slices_IndexFunc_Phase_Phase_roads_greens_1_1bb_l1c p1 p2 p3 x1) (slices_IndexFunc_Phase_Phase_roads_greens_1_1bb_l1 p1 p2 p3 x1) := by
  unfold slices_IndexFunc_Phase_Phase_roads_greens_1_1bb_l1c slices_IndexFunc_Phase_Phase_roads_greens_1_1bb_l1
  repeat' first | with_reducible exact Le.refl _ | with_reducible exact roads_greens_1_1_b_b_le _ _ _ | with_reducible refine Le.bind ?_ fun _ => ?_ | with_reducible refine Le.cond ?_ ?_ | with_reducible refine Le.ite ?_ ?_ | with_reducible refine Le.thenS ?_ (fun _ => ?_) (fun _ => ?_) | with_reducible refine Le.loop (fun _ => ?_) _ | with_reducible refine Le.loopL (fun _ _ => ?_) _ _ | exact Le.refl _
def slices_IndexFunc_Phase_Phase_roads_greens_1_1bbc (p1 : (List Phase)) (p2 : Int) (p3 : Int) : Option Int :=
  thenS (loopF (slices_IndexFunc_Phase_Phase_roads_greens_1_1bb_l1c p1 p2 p3) 0) (fun _ => some (-1)) (fun r => some r)
theorem slices_IndexFunc_Phase_Phase_roads_greens_1_1bb_le (p1 : (List Phase)) (p2 : Int) (p3 : Int) : Le (slices_IndexFunc_Phase_Phase_roads_greens_1_1bbc p1 p2 p3) (slices_IndexFunc_Phase_Phase_roads_greens_1_1bb p1 p2 p3) := by
  unfold slices_IndexFunc_Phase_Phase_roads_greens_1_1bbc slices_IndexFunc_Phase_Phase_roads_greens_1_1bb
  repeat' first | with_reducible exact Le.refl _ | with_reducible exact slices_IndexFunc_Phase_Phase_roads_greens_1_1bb_l1_le _ _ _ _ | with_reducible refine Le.bind ?_ fun _ => ?_ | with_reducible refine Le.cond ?_ ?_ | with_reducible refine Le.ite ?_ ?_ | with_reducible refine Le.thenS ?_ (fun _ => ?_) (fun _ => ?_) | with_reducible refine Le.loop (fun _ => ?_) _ | with_reducible refine Le.loopL (fun _ _ => ?_) _ _ | exact Le.refl _
def slices_ContainsFunc_Phase_Phase_roads_greens_1_1bbc (p1 : (List Phase)) (p2 : Int) (p3 : Int) : Option Bool :=
  (slices_IndexFunc_Phase_Phase_roads_greens_1_1bbc p1 p2 p3).bind fun v1 => some (decide (v1 ≥ 0))
theorem slices_ContainsFunc_Phase_Phase_roads_greens_1_1bb_le (p1 : (List Phase)) (p2 : Int) (p3 : Int) : Le (slices_ContainsFunc_Phase_Phase_roads_greens_1_1bbc p1 p2 p3) (slices_ContainsFunc_Phase_Phase_roads_greens_1_1bb p1 p2 p3) := by
  unfold slices_ContainsFunc_Phase_Phase_roads_greens_1_1bbc slices_ContainsFunc_Phase_Phase_roads_greens_1_1bb
  repeat' first | with_reducible exact Le.refl _ | with_reducible exact slices_IndexFunc_Phase_Phase_roads_greens_1_1bb_le _ _ _ | with_reducible refine Le.bind ?_ fun _ => ?_ | with_reducible refine Le.cond ?_ ?_ | with_reducible refine Le.ite ?_ ?_ | with_reducible refine Le.thenS ?_ (fun _ => ?_) (fun _ => ?_) | with_reducible refine Le.loop (fun _ => ?_) _ | with_reducible refine Le.loopL (fun _ _ => ?_) _ _ | exact Le.refl _
def roads_greens_1_bc (p1 : Zone) (p2 : Int) (p3 : Int) (p4 : Map) : Option Bool :=
  ((cond (decide (p1.Signal_ > 0)) (geti p4.Signals (w64 (p1.Signal_ - 1))) (some default))).bind fun v1 => ((cond (decide (p1.Signal_ > 0)) (slices_ContainsFunc_Phase_Phase_roads_greens_1_1bbc v1.Phases p2 p3) (some default))).bind fun v2 => some ((decide (p1.Signal_ > 0)) && v2)
theorem roads_greens_1_b_le (p1 : Zone) (p2 : Int) (p3 : Int) (p4 : Map) : Le (roads_greens_1_bc p1 p2 p3 p4) (roads_greens_1_b p1 p2 p3 p4) := by
  unfold roads_greens_1_bc roads_greens_1_b
  repeat' first | with_reducible exact Le.refl _ | with_reducible exact slices_ContainsFunc_Phase_Phase_roads_greens_1_1bb_le _ _ _ | with_reducible refine Le.bind ?_ fun _ => ?_ | with_reducible refine Le.cond ?_ ?_ | with_reducible refine Le.ite ?_ ?_ | with_reducible refine Le.thenS ?_ (fun _ => ?_) (fun _ => ?_) | with_reducible refine Le.loop (fun _ => ?_) _ | with_reducible refine Le.loopL (fun _ _ => ?_) _ _ | exact Le.refl _
def roads_pairs_roads_greens_1o_l3c (p2 : Int) (p3 : Map) (x1 : ((List Clash) × Int)) (v1 : Zone) (v3 : Int) (v4 : List Int) (x3 : ((List Clash) × Int)) : Option (Stp ((List Clash) × Int) (List Clash)) :=
  cond (decide (x3.2 < (v4.length : Int))) ((geti v4 x3.2).bind fun v5 => (roads_greens_1_bc v1 v3 v5 p3).bind fun v6 => cond v6 ((appc x3.1 [(Clash.mk p2 x1.2 v3 v5)]).bind fun v7 => some (.go (v7, (w64 (x3.2 + 1))))) (some (.go (x3.1, (w64 (x3.2 + 1)))))) (some (.out x3.1))
theorem roads_pairs_roads_greens_1o_l3_le (p2 : Int) (p3 : Map) (x1 : ((List Clash) × Int)) (v1 : Zone) (v3 : Int) (v4 : List Int) (x3 : ((List Clash) × Int)) : Le (roads_pairs_roads_greens_1o_l3c p2 p3 x1 v1 v3 v4 x3) (roads_pairs_roads_greens_1o_l3 p2 p3 x1 v1 v3 v4 x3) := by
  unfold roads_pairs_roads_greens_1o_l3c roads_pairs_roads_greens_1o_l3
  repeat' first | with_reducible exact Le.refl _ | with_reducible exact roads_greens_1_b_le _ _ _ _ | with_reducible refine Le.bind ?_ fun _ => ?_ | with_reducible refine Le.cond ?_ ?_ | with_reducible refine Le.ite ?_ ?_ | with_reducible refine Le.thenS ?_ (fun _ => ?_) (fun _ => ?_) | with_reducible refine Le.loop (fun _ => ?_) _ | with_reducible refine Le.loopL (fun _ _ => ?_) _ _ | exact Le.refl _
def roads_pairs_roads_greens_1o_l2c (p2 : Int) (p3 : Map) (x1 : ((List Clash) × Int)) (v1 : Zone) (v2 : (List Int)) (x2 : ((List Clash) × Int)) : Option (Stp ((List Clash) × Int) (List Clash)) :=
  cond (decide (x2.2 < (v2.length : Int))) ((geti v2 x2.2).bind fun v3 => (subl v2 (w64 (x2.2 + 1)) (v2.length : Int)).bind fun v4 => (loopF (roads_pairs_roads_greens_1o_l3c p2 p3 x1 v1 v3 v4) (x2.1, 0)).bind fun y3 => some (.go (y3, (w64 (x2.2 + 1))))) (some (.out x2.1))
theorem roads_pairs_roads_greens_1o_l2_le (p2 : Int) (p3 : Map) (x1 : ((List Clash) × Int)) (v1 : Zone) (v2 : (List Int)) (x2 : ((List Clash) × Int)) : Le (roads_pairs_roads_greens_1o_l2c p2 p3 x1 v1 v2 x2) (roads_pairs_roads_greens_1o_l2 p2 p3 x1 v1 v2 x2) := by
  unfold roads_pairs_roads_greens_1o_l2c roads_pairs_roads_greens_1o_l2
  repeat' first | with_reducible exact Le.refl _ | with_reducible exact roads_pairs_roads_greens_1o_l3_le _ _ _ _ _ _ _ | with_reducible refine Le.bind ?_ fun _ => ?_ | with_reducible refine Le.cond ?_ ?_ | with_reducible refine Le.ite ?_ ?_ | with_reducible refine Le.thenS ?_ (fun _ => ?_) (fun _ => ?_) | with_reducible refine Le.loop (fun _ => ?_) _ | with_reducible refine Le.loopL (fun _ _ => ?_) _ _ | exact Le.refl _
def roads_pairs_roads_greens_1o_l1c (p1 : Map) (p2 : Int) (p3 : Map) (x1 : ((List Clash) × Int)) : Option (Stp ((List Clash) × Int) (List Clash)) :=
  cond (decide (x1.2 < (p1.Zones.length : Int))) ((geti p1.Zones x1.2).bind fun v1 => (roads_entriesc p1 v1).bind fun v2 => (loopF (roads_pairs_roads_greens_1o_l2c p2 p3 x1 v1 v2) (x1.1, 0)).bind fun y2 => some (.go (y2, (w64 (x1.2 + 1))))) (some (.out x1.1))
theorem roads_pairs_roads_greens_1o_l1_le (p1 : Map) (p2 : Int) (p3 : Map) (x1 : ((List Clash) × Int)) : Le (roads_pairs_roads_greens_1o_l1c p1 p2 p3 x1) (roads_pairs_roads_greens_1o_l1 p1 p2 p3 x1) := by
  unfold roads_pairs_roads_greens_1o_l1c roads_pairs_roads_greens_1o_l1
  repeat' first | with_reducible exact Le.refl _ | with_reducible exact roads_entries_le _ _ | with_reducible exact roads_pairs_roads_greens_1o_l2_le _ _ _ _ _ _ | with_reducible refine Le.bind ?_ fun _ => ?_ | with_reducible refine Le.cond ?_ ?_ | with_reducible refine Le.ite ?_ ?_ | with_reducible refine Le.thenS ?_ (fun _ => ?_) (fun _ => ?_) | with_reducible refine Le.loop (fun _ => ?_) _ | with_reducible refine Le.loopL (fun _ _ => ?_) _ _ | exact Le.refl _
def roads_pairs_roads_greens_1oc (p1 : Map) (p2 : Int) (p3 : Map) : Option (List Clash) :=
  (loopF (roads_pairs_roads_greens_1o_l1c p1 p2 p3) ([], 0)).bind fun y1 => some y1
theorem roads_pairs_roads_greens_1o_le (p1 : Map) (p2 : Int) (p3 : Map) : Le (roads_pairs_roads_greens_1oc p1 p2 p3) (roads_pairs_roads_greens_1o p1 p2 p3) := by
  unfold roads_pairs_roads_greens_1oc roads_pairs_roads_greens_1o
  repeat' first | with_reducible exact Le.refl _ | with_reducible exact roads_pairs_roads_greens_1o_l1_le _ _ _ _ | with_reducible refine Le.bind ?_ fun _ => ?_ | with_reducible refine Le.cond ?_ ?_ | with_reducible refine Le.ite ?_ ?_ | with_reducible refine Le.thenS ?_ (fun _ => ?_) (fun _ => ?_) | with_reducible refine Le.loop (fun _ => ?_) _ | with_reducible refine Le.loopL (fun _ _ => ?_) _ _ | exact Le.refl _
def roads_greensc (p1 : Map) : Option (List Clash) :=
  (roads_pairs_roads_greens_1oc p1 4 p1).bind fun v1 => some v1
theorem roads_greens_le (p1 : Map) : Le (roads_greensc p1) (roads_greens p1) := by
  unfold roads_greensc roads_greens
  repeat' first | with_reducible exact Le.refl _ | with_reducible exact roads_pairs_roads_greens_1o_le _ _ _ | with_reducible refine Le.bind ?_ fun _ => ?_ | with_reducible refine Le.cond ?_ ?_ | with_reducible refine Le.ite ?_ ?_ | with_reducible refine Le.thenS ?_ (fun _ => ?_) (fun _ => ?_) | with_reducible refine Le.loop (fun _ => ?_) _ | with_reducible refine Le.loopL (fun _ _ => ?_) _ _ | exact Le.refl _
def roads_Fitc (p1 : Map) : Option Bool :=
  (roads_Checkc p1).bind fun v1 => ((cond (v1 == 0) (roads_mergesc p1) (some default))).bind fun v2 => ((cond (v1 == 0) (roads_chainsc p1) (some default))).bind fun v3 => ((cond (v1 == 0) (roads_ranksc p1) (some default))).bind fun v4 => ((cond (v1 == 0) (roads_greensc p1) (some default))).bind fun v5 => some ((v1 == 0) && ((w64 ((w64 ((w64 ((v2.length : Int) + (v3.length : Int))) + (v4.length : Int))) + (v5.length : Int))) == 0))
theorem roads_Fit_le (p1 : Map) : Le (roads_Fitc p1) (roads_Fit p1) := by
  unfold roads_Fitc roads_Fit
  repeat' first | with_reducible exact Le.refl _ | with_reducible exact roads_Check_le _ | with_reducible exact roads_merges_le _ | with_reducible exact roads_chains_le _ | with_reducible exact roads_ranks_le _ | with_reducible exact roads_greens_le _ | with_reducible refine Le.bind ?_ fun _ => ?_ | with_reducible refine Le.cond ?_ ?_ | with_reducible refine Le.ite ?_ ?_ | with_reducible refine Le.thenS ?_ (fun _ => ?_) (fun _ => ?_) | with_reducible refine Le.loop (fun _ => ?_) _ | with_reducible refine Le.loopL (fun _ _ => ?_) _ _ | exact Le.refl _
def roads_isc (p1 : Map) (p2 : Int) : Option Bool :=
  ((cond ((decide (p2 ≥ 0)) && (decide (p2 < (p1.Lanes.length : Int)))) (roads_Checkc p1) (some default))).bind fun v1 => some (((decide (p2 ≥ 0)) && (decide (p2 < (p1.Lanes.length : Int)))) && (v1 == 0))
theorem roads_is_le (p1 : Map) (p2 : Int) : Le (roads_isc p1 p2) (roads_is p1 p2) := by
  unfold roads_isc roads_is
  repeat' first | with_reducible exact Le.refl _ | with_reducible exact roads_Check_le _ | with_reducible refine Le.bind ?_ fun _ => ?_ | with_reducible refine Le.cond ?_ ?_ | with_reducible refine Le.ite ?_ ?_ | with_reducible refine Le.thenS ?_ (fun _ => ?_) (fun _ => ?_) | with_reducible refine Le.loop (fun _ => ?_) _ | with_reducible refine Le.loopL (fun _ _ => ?_) _ _ | exact Le.refl _
def roads_Lengthc (p1 : Map) (p2 : Int) : Option Int :=
  (roads_isc p1 p2).bind fun v1 => cond (!v1) (some 0) ((roads_longc p1 p2).bind fun v2 => some v2)
theorem roads_Length_le (p1 : Map) (p2 : Int) : Le (roads_Lengthc p1 p2) (roads_Length p1 p2) := by
  unfold roads_Lengthc roads_Length
  repeat' first | with_reducible exact Le.refl _ | with_reducible exact roads_is_le _ _ | with_reducible exact roads_long_le _ _ | with_reducible refine Le.bind ?_ fun _ => ?_ | with_reducible refine Le.cond ?_ ?_ | with_reducible refine Le.ite ?_ ?_ | with_reducible refine Le.thenS ?_ (fun _ => ?_) (fun _ => ?_) | with_reducible refine Le.loop (fun _ => ?_) _ | with_reducible refine Le.loopL (fun _ _ => ?_) _ _ | exact Le.refl _
def roads_Limit_l1c (p1 : Map) (p2 : Int) (p3 : Int) (p4 : Int) (x1 : (Int × Int)) : Option (Stp (Int × Int) Int) :=
  cond (decide (x1.2 < (p1.Works.length : Int))) ((geti p1.Works x1.2).bind fun v5 => ((cond (v5.Lane_ == p2) (roads_withinc p3 v5.From v5.To) (some default))).bind fun v6 => ((cond ((v5.Lane_ == p2) && v6) (roads_withinc p4 v5.Begin (w64 (v5.End - 1))) (some default))).bind fun v7 => cond (((v5.Lane_ == p2) && v6) && v7) (some (.go ((mm2 false x1.1 v5.Limit), (w64 (x1.2 + 1))))) (some (.go (x1.1, (w64 (x1.2 + 1)))))) (some (.out x1.1))
theorem roads_Limit_l1_le (p1 : Map) (p2 : Int) (p3 : Int) (p4 : Int) (x1 : (Int × Int)) : Le (roads_Limit_l1c p1 p2 p3 p4 x1) (roads_Limit_l1 p1 p2 p3 p4 x1) := by
  unfold roads_Limit_l1c roads_Limit_l1
  repeat' first | with_reducible exact Le.refl _ | with_reducible exact roads_within_le _ _ _ | with_reducible refine Le.bind ?_ fun _ => ?_ | with_reducible refine Le.cond ?_ ?_ | with_reducible refine Le.ite ?_ ?_ | with_reducible refine Le.thenS ?_ (fun _ => ?_) (fun _ => ?_) | with_reducible refine Le.loop (fun _ => ?_) _ | with_reducible refine Le.loopL (fun _ _ => ?_) _ _ | exact Le.refl _
def roads_Limitc (p1 : Map) (p2 : Int) (p3 : Int) (p4 : Int) : Option Int :=
  (roads_isc p1 p2).bind fun v1 => ((cond (!(!v1)) (roads_longc p1 p2) (some default))).bind fun v2 => ((cond (!(!v1)) (roads_withinc p3 0 v2) (some default))).bind fun v3 => cond ((!v1) || (!v3)) (some 0) ((geti p1.Lanes p2).bind fun v4 => (loopF (roads_Limit_l1c p1 p2 p3 p4) (v4.Limit, 0)).bind fun y1 => some y1)
theorem roads_Limit_le (p1 : Map) (p2 : Int) (p3 : Int) (p4 : Int) : Le (roads_Limitc p1 p2 p3 p4) (roads_Limit p1 p2 p3 p4) := by
  unfold roads_Limitc roads_Limit
  repeat' first | with_reducible exact Le.refl _ | with_reducible exact roads_is_le _ _ | with_reducible exact roads_long_le _ _ | with_reducible exact roads_within_le _ _ _ | with_reducible exact roads_Limit_l1_le _ _ _ _ _ | with_reducible refine Le.bind ?_ fun _ => ?_ | with_reducible refine Le.cond ?_ ?_ | with_reducible refine Le.ite ?_ ?_ | with_reducible refine Le.thenS ?_ (fun _ => ?_) (fun _ => ?_) | with_reducible refine Le.loop (fun _ => ?_) _ | with_reducible refine Le.loopL (fun _ _ => ?_) _ _ | exact Le.refl _
def law03_awakec : Option Bool :=
  (kit_Crossc).bind fun v1 => (roads_Placec v1 [0] 60000).bind fun v2 => (roads_Checkc v1).bind fun v3 => ((cond (v3 == 0) (roads_Fitc v1) (some default))).bind fun v4 => ((cond (((((v3 == 0) && v4) && (v2.1 == 0)) && (v2.2.1 == 60000)) && v2.2.2) (roads_Lengthc v1 1) (some default))).bind fun v5 => ((cond ((((((v3 == 0) && v4) && (v2.1 == 0)) && (v2.2.1 == 60000)) && v2.2.2) && (v5 == 100000)) (roads_Limitc v1 0 10 5) (some default))).bind fun v6 => some (((((((v3 == 0) && v4) && (v2.1 == 0)) && (v2.2.1 == 60000)) && v2.2.2) && (v5 == 100000)) && (v6 == 1500))
theorem law03_awake_le : Le (law03_awakec) (law03_awake) := by
  unfold law03_awakec law03_awake
  repeat' first | with_reducible exact Le.refl _ | with_reducible exact kit_Cross_le | with_reducible exact roads_Place_le _ _ _ | with_reducible exact roads_Check_le _ | with_reducible exact roads_Fit_le _ | with_reducible exact roads_Length_le _ _ | with_reducible exact roads_Limit_le _ _ _ _ | with_reducible refine Le.bind ?_ fun _ => ?_ | with_reducible refine Le.cond ?_ ?_ | with_reducible refine Le.ite ?_ ?_ | with_reducible refine Le.thenS ?_ (fun _ => ?_) (fun _ => ?_) | with_reducible refine Le.loop (fun _ => ?_) _ | with_reducible refine Le.loopL (fun _ _ => ?_) _ _ | exact Le.refl _
end Go.Abs.Roadsz

namespace Go.Abs.Roadsz
open Go Go.Abs

theorem curve_root_spec (n : Int) : ∃ y, curve_root n = some (y, y * y == n) ∧ 0 ≤ y ∧ y ≤ 67108864 ∧ (∀ m, 0 ≤ m → m < y → m * m < n) ∧ (y = 67108864 ∨ n ≤ y * y) := by
  have key := loop_inv (f := curve_root_l1 n) (fun x => 0 ≤ x.1 ∧ x.1 ≤ x.2 ∧ x.2 ≤ 67108864 ∧ (∀ m, 0 ≤ m → m < x.1 → m * m < n) ∧ (x.2 = 67108864 ∨ n ≤ x.2 * x.2)) (fun x => (x.2 - x.1).toNat)
    (fun y => 0 ≤ y ∧ y ≤ 67108864 ∧ (∀ m, 0 ≤ m → m < y → m * m < n) ∧ (y = 67108864 ∨ n ≤ y * y)) (by
      rintro ⟨lo, hi⟩ ⟨h1, h2, h3, h4, h5⟩
      dsimp only at h1 h2 h3 h4 h5
      unfold curve_root_l1
      dsimp only
      by_cases hlt : lo < hi
      · have e1 : w64 (lo + hi) = lo + hi := w64_id (by omega)
        have e2 : w64 ((lo + hi).tdiv 2) = (lo + hi) / 2 := by rw [Int.tdiv_eq_ediv_of_nonneg (by omega)]; exact w64_id (by omega)
        have hm : lo ≤ (lo + hi) / 2 ∧ (lo + hi) / 2 < hi := by omega
        generalize hmid : (lo + hi) / 2 = mid at *
        have hmm : mid * mid ≤ 67108864 * 67108864 := sq_le (by omega) (by omega)
        have hmm0 := sq_nonneg mid
        have e3 : w64 (mid * mid) = mid * mid := w64_id (by omega)
        have e4 : w64 (mid + 1) = mid + 1 := w64_id (by omega)
        simp only [e1, e2, e3, e4, hlt, decide_true, cond_true]
        by_cases hc : mid * mid < n
        · simp only [hc, decide_true, cond_true]
          refine ⟨_, rfl, ⟨by omega, by omega, h3, fun m hm0 hm1 => ?_, h5⟩, by dsimp only; omega⟩
          rcases Int.lt_or_le m mid with q | q
          · have := Int.mul_le_mul (show m ≤ mid by omega) (show m ≤ mid by omega) hm0 (by omega); omega
          · have : m = mid := by dsimp only at hm1; omega
            subst this; exact hc
        · simp only [hc, decide_false, cond_false]
          exact ⟨_, rfl, ⟨h1, by dsimp only; omega, by dsimp only; omega, h4, .inr (by dsimp only; omega)⟩, by dsimp only; omega⟩
      · simp only [hlt, decide_false, cond_false]
        obtain rfl : lo = hi := by omega
        exact ⟨_, rfl, h1, h3, h4, h5⟩) (0, 67108864) ⟨by decide, by decide, by decide, fun m h1 h2 => by dsimp only at h2; omega, .inl rfl⟩
  obtain ⟨y, hy, h1, h2, h3, h4⟩ := key
  refine ⟨y, ?_, h1, h2, h3, h4⟩
  have hmm : y * y ≤ 67108864 * 67108864 := sq_le (by omega) (by omega)
  have hmm0 := sq_nonneg y
  unfold curve_root
  rw [hy, Option.bind_some, w64_id (by omega)]
/-- The least number whose square is not less. -/
noncomputable def rt (n : Int) : Int := (curve_root_spec n).choose
theorem curve_root_rt (n : Int) : curve_root n = some (rt n, rt n * rt n == n) := (curve_root_spec n).choose_spec.1
theorem rt_nonneg (n : Int) : 0 ≤ rt n := (curve_root_spec n).choose_spec.2.1
theorem rt_min (n m : Int) (h1 : 0 ≤ m) (h2 : m < rt n) : m * m < n := (curve_root_spec n).choose_spec.2.2.2.1 m h1 h2
theorem rt_max (n : Int) : rt n = 67108864 ∨ n ≤ rt n * rt n := (curve_root_spec n).choose_spec.2.2.2.2
theorem rt_sq {l : Int} (h0 : 0 ≤ l) (h1 : l ≤ 67108864) : rt (l * l) = l := by
  rcases Int.lt_trichotomy (rt (l * l)) l with q | q | q
  · rcases rt_max (l * l) with h | h
    · omega
    · have h2 := rt_nonneg (l * l)
      have := Int.mul_lt_mul' (show rt (l * l) ≤ l by omega) q h2 (by omega); omega
  · exact q
  · have := rt_min (l * l) l h0 q; omega

theorem ref01_root_spec (n : Int) (h0 : 0 ≤ n) (h1 : n < 18014398509481984) : ∃ r, ref01_root n = some r ∧ 0 ≤ r ∧ r < 134217728 ∧ r * r ≤ n ∧ n < (r + 1) * (r + 1) := by
  have key := loop_inv (f := ref01_root_l1 n) (fun x => 0 ≤ x.1 ∧ x.1 * x.1 ≤ n ∧ ((∃ k : Nat, k ≤ 26 ∧ x.2 = 2 ^ k ∧ x.1 + 2 * 2 ^ k ≤ 134217728 ∧ n < (x.1 + 2 * 2 ^ k) * (x.1 + 2 * 2 ^ k)) ∨ (x.2 = 0 ∧ x.1 < 134217728 ∧ n < (x.1 + 1) * (x.1 + 1)))) (fun x => x.2.toNat)
    (fun r => 0 ≤ r ∧ r < 134217728 ∧ r * r ≤ n ∧ n < (r + 1) * (r + 1)) (by
      rintro ⟨r, bit⟩ ⟨q1, q2, q3⟩
      dsimp only at q1 q2 q3
      unfold ref01_root_l1
      dsimp only
      rcases q3 with ⟨k, hk, rfl, q4, q5⟩ | ⟨rfl, q4, q5⟩
      · have hp : (0 : Int) < 2 ^ k := Int.pow_pos (by decide)
        generalize hb : (2 : Int) ^ k = b at *
        have e1 : w64 (r + b) = r + b := w64_id (by omega)
        have hmm : (r + b) * (r + b) ≤ 134217728 * 134217728 := sq_le (by omega) (by omega)
        have hmm0 := sq_nonneg (r + b)
        have e2 : w64 ((r + b) * (r + b)) = (r + b) * (r + b) := w64_id (by omega)
        have e3 : w64 (b.tdiv 2) = b / 2 := by rw [Int.tdiv_eq_ediv_of_nonneg (by omega)]; exact w64_id (by omega)
        have hb0 : b > 0 := by omega
        simp only [e1, e2, e3, hb0, decide_true, cond_true]
        have hnext : ∀ r', 0 ≤ r' → r' * r' ≤ n → r' + b ≤ 134217728 → n < (r' + b) * (r' + b) → (∃ j : Nat, j ≤ 26 ∧ b / 2 = 2 ^ j ∧ r' + 2 * 2 ^ j ≤ 134217728 ∧ n < (r' + 2 * 2 ^ j) * (r' + 2 * 2 ^ j)) ∨ (b / 2 = 0 ∧ r' < 134217728 ∧ n < (r' + 1) * (r' + 1)) := by
          intro r' a1 a2 a3 a4
          cases k with
          | zero =>
            have : b = 1 := by rw [← hb]; rfl
            subst this
            exact .inr ⟨by decide, by omega, a4⟩
          | succ j =>
            have hj : b = 2 * 2 ^ j := by rw [← hb, Int.pow_succ]; omega
            refine .inl ⟨j, by omega, by omega, by omega, by rw [← hj]; exact a4⟩
        by_cases hc : (r + b) * (r + b) ≤ n
        · simp only [hc, decide_true, cond_true]
          refine ⟨_, rfl, ⟨by dsimp only; omega, hc, hnext (r + b) (by omega) hc (by omega) (by rw [show r + b + b = r + 2 * b by omega]; exact q5)⟩, by dsimp only; omega⟩
        · simp only [hc, decide_false, cond_false]
          exact ⟨_, rfl, ⟨q1, q2, hnext r q1 q2 (by omega) (by omega)⟩, by dsimp only; omega⟩
      · simp only [show ¬ (0 : Int) > 0 by decide, decide_false, cond_false]
        exact ⟨_, rfl, q1, q4, q2, q5⟩) (0, 67108864) ⟨by decide, by dsimp only; omega, .inl ⟨26, by decide, by decide, by decide, by dsimp only; omega⟩⟩
  obtain ⟨r, hr, a⟩ := key
  exact ⟨r, by unfold ref01_root; rw [hr]; rfl, a⟩
theorem ref01_root_rt {n : Int} (h0 : 0 ≤ n) (h1 : n ≤ 4503599627370496) : ∃ r, ref01_root n = some r ∧ 0 ≤ r ∧ r < 134217728 ∧ (r * r = n ↔ rt n * rt n = n) ∧ (r * r = n → r = rt n) := by
  obtain ⟨r, hr, a1, a2, a3, a4⟩ := ref01_root_spec n h0 (by omega)
  have hr26 : r ≤ 67108864 := by
    rcases Int.lt_or_le r 67108865 with q | q
    · omega
    · have := Int.mul_le_mul q q (by decide) (by omega); omega
  refine ⟨r, hr, a1, a2, ⟨fun h => ?_, fun h => ?_⟩, fun h => ?_⟩
  · rw [← h, rt_sq a1 hr26]
  · rcases Int.lt_trichotomy r (rt n) with q | q | q
    · have := Int.mul_le_mul (show r + 1 ≤ rt n by omega) (show r + 1 ≤ rt n by omega) (by omega) (rt_nonneg n); omega
    · rw [q]; exact h
    · have h2 := rt_nonneg n
      have := Int.mul_lt_mul' (show rt n ≤ r by omega) q h2 (by omega); omega
  · rw [← h, rt_sq a1 hr26]
end Go.Abs.Roadsz

namespace Go.Abs.Roadsz
open Go Go.Abs

def okS (p : Spot) : Bool := decide (-16777216 ≤ p.X) && decide (p.X ≤ 16777216) && decide (-16777216 ≤ p.Y) && decide (p.Y ≤ 16777216)
theorem okS_iff {p : Spot} : okS p = true ↔ -16777216 ≤ p.X ∧ p.X ≤ 16777216 ∧ -16777216 ≤ p.Y ∧ p.Y ≤ 16777216 := by simp [okS, and_assoc]
theorem fair_cond (p : Spot) : ((decide ((mm2 false p.X p.Y) < (-16777216))) || (decide ((mm2 true p.X p.Y) > 16777216))) = !okS p := by
  rw [mm2_min, mm2_max]
  cases h : okS p with
  | true => have := okS_iff.1 h; simp; omega
  | false =>
    have : ¬ (-16777216 ≤ p.X ∧ p.X ≤ 16777216 ∧ -16777216 ≤ p.Y ∧ p.Y ≤ 16777216) := fun q => by rw [okS_iff.2 q] at h; cases h
    simp; omega
theorem curve_fair_go (l : List Spot) (hl : l.length ≤ 1000000) : ∀ (r : List Spot) (i : Nat), l.drop i = r → loop (curve_fair_l1 l) (i : Int) = some (if r.all okS then .inl () else .inr false) := by
  intro r
  induction r with
  | nil =>
    intro i hi
    have := drop_nil hi
    refine loop_out ?_
    unfold curve_fair_l1
    simp only [show ¬ (i : Int) < l.length by omega, decide_false, cond_false, List.all_nil, if_true]
  | cons p r ih =>
    intro i hi
    have hlt := drop_lt hi
    have hstep : curve_fair_l1 l (i : Int) = if okS p then some (.go ((i + 1 : Nat) : Int)) else some (.out (.inr false)) := by
      unfold curve_fair_l1
      simp only [show (i : Int) < l.length by omega, decide_true, cond_true, geti_drop hi, Option.bind_some, fair_cond]
      cases h : okS p with
      | true => simp only [Bool.not_true, cond_false, if_true]; rw [w64_id (by omega)]; rfl
      | false => simp
    cases h : okS p with
    | true =>
      rw [h, if_pos rfl] at hstep
      rw [loop_go hstep, ih (i + 1) (drop_succ hi)]
      simp [h]
    | false =>
      rw [h] at hstep
      rw [loop_out hstep]
      simp [h]
theorem curve_fair_eq (l : List Spot) (hl : l.length ≤ 1000000) : curve_fair l = some (l.all okS) := by
  unfold curve_fair
  have := curve_fair_go l hl l 0 (by simp)
  rw [show ((0 : Nat) : Int) = 0 from rfl] at this
  rw [this]
  cases l.all okS <;> rfl
theorem ref01_Valid_eq (p : Spot) : ref01_Valid p = some (okS p) := by
  unfold ref01_Valid okS; rfl

def vec (p q : Spot) : CurveVector := ⟨q.X - p.X, q.Y - p.Y⟩
def dotv (v w : CurveVector) : Int := v.x * w.x + v.y * w.y
/-- A vector between valid spots. -/
def okV (v : CurveVector) : Prop := -33554432 ≤ v.x ∧ v.x ≤ 33554432 ∧ -33554432 ≤ v.y ∧ v.y ≤ 33554432
theorem okV_vec {p q : Spot} (hp : okS p = true) (hq : okS q = true) : okV (vec p q) := by
  have := okS_iff.1 hp; have := okS_iff.1 hq
  unfold okV vec; dsimp only; omega
theorem curve_from_eq {p q : Spot} (hp : okS p = true) (hq : okS q = true) : curve_from p q = some (vec p q) := by
  have := okS_iff.1 hp; have := okS_iff.1 hq
  unfold curve_from vec
  rw [w64_id (by omega), w64_id (by omega)]
theorem dot_bd {v w : CurveVector} (hv : okV v) (hw : okV w) : -2251799813685248 ≤ dotv v w ∧ dotv v w ≤ 2251799813685248 ∧ (-1125899906842624 ≤ v.x * w.x ∧ v.x * w.x ≤ 1125899906842624) ∧ -1125899906842624 ≤ v.y * w.y ∧ v.y * w.y ≤ 1125899906842624 := by
  obtain ⟨a1, a2, a3, a4⟩ := hv
  obtain ⟨b1, b2, b3, b4⟩ := hw
  have h1 := mul_bd ⟨a1, a2⟩ ⟨b1, b2⟩
  have h2 := mul_bd ⟨a3, a4⟩ ⟨b3, b4⟩
  unfold dotv
  omega
theorem curve_dot_eq {v w : CurveVector} (hv : okV v) (hw : okV w) : curve_vector_dot v w = some (dotv v w) := by
  have h := dot_bd hv hw
  unfold curve_vector_dot
  rw [w64_id (n := v.x * w.x) (by omega), w64_id (n := v.y * w.y) (by omega), w64_id (by unfold dotv at h; omega)]
  rfl
theorem dot_nonneg (v : CurveVector) : 0 ≤ dotv v v := by have := sq_nonneg v.x; have := sq_nonneg v.y; unfold dotv; omega

def vs (v : CurveVector) : Spot := ⟨v.x, v.y⟩
theorem ref01_Minus_eq {p q : Spot} (hp : okS p = true) (hq : okS q = true) : ref01_Minus q p = some (vs (vec p q)) := by
  have := okS_iff.1 hp; have := okS_iff.1 hq
  unfold ref01_Minus vec vs
  rw [w64_id (by omega), w64_id (by omega)]
theorem ref01_Dot_eq {v w : CurveVector} (hv : okV v) (hw : okV w) : ref01_Dot (vs v) (vs w) = some (dotv v w) := by
  have h := dot_bd hv hw
  unfold ref01_Dot vs
  dsimp only
  rw [w64_id (n := v.x * w.x) (by omega), w64_id (n := v.y * w.y) (by omega), w64_id (by unfold dotv at h; omega)]
  rfl

/-- The error of a chain of points, from a piece on; the piece ahead of it. -/
noncomputable def goM : Option CurveVector → List Spot → Int
  | last, p :: q :: r =>
    if rt (dotv (vec p q) (vec p q)) * rt (dotv (vec p q) (vec p q)) ≠ dotv (vec p q) (vec p q) then 3
    else if rt (dotv (vec p q) (vec p q)) < 1000 ∨ rt (dotv (vec p q) (vec p q)) > 1048576 then 2
    else match last with
      | some u => if dotv u (vec p q) ≤ 0 then 12 else goM (some (vec p q)) (q :: r)
      | none => goM (some (vec p q)) (q :: r)
  | _, _ => 0
theorem goM_cons (last : Option CurveVector) (p q : Spot) (r : List Spot) : goM last (p :: q :: r) =
    if rt (dotv (vec p q) (vec p q)) * rt (dotv (vec p q) (vec p q)) ≠ dotv (vec p q) (vec p q) then 3
    else if rt (dotv (vec p q) (vec p q)) < 1000 ∨ rt (dotv (vec p q) (vec p q)) > 1048576 then 2
    else match last with
      | some u => if dotv u (vec p q) ≤ 0 then 12 else goM (some (vec p q)) (q :: r)
      | none => goM (some (vec p q)) (q :: r) := by
  conv => lhs; unfold goM
noncomputable def checkM (l : List Spot) : Int := if l.length < 2 then 6 else if l.length > 16 then 5 else if l.all okS then goM none l else 2

theorem curve_Check_go (c : Curve) (hl : c.Pts.length ≤ 1000000) (hok : c.Pts.all okS = true) : ∀ (r : List Spot) (p : Spot) (i : Nat) (last : CurveVector), c.Pts.drop i = p :: r → okV last →
    loop (curve_Check_l1 c) ((i : Int), last) = some (if goM (if i = 0 then none else some last) (p :: r) = 0 then .inl () else .inr (goM (if i = 0 then none else some last) (p :: r))) := by
  intro r
  induction r with
  | nil =>
    intro p i last hi hlast
    have hlt := drop_lt hi
    have := drop_nil (drop_succ hi)
    refine loop_out ?_
    unfold curve_Check_l1
    dsimp only
    rw [w64_id (n := (c.Pts.length : Int) - 1) (by omega)]
    simp only [show ¬ (i : Int) < (c.Pts.length : Int) - 1 by omega, decide_false, cond_false, goM, if_true]
  | cons q r ih =>
    intro p i last hi hlast
    have hlt := drop_lt hi
    have hi1 := drop_succ hi
    have hlt1 := drop_lt hi1
    have hp : okS p = true := List.all_eq_true.1 hok p (List.mem_of_mem_drop (i := i) (by rw [hi]; simp))
    have hq : okS q = true := List.all_eq_true.1 hok q (List.mem_of_mem_drop (i := i) (by rw [hi]; simp))
    have hv := okV_vec hp hq
    have hg1 : geti c.Pts ((i : Int) + 1) = some q := by have := geti_drop hi1; simpa using this
    have hstep : curve_Check_l1 c ((i : Int), last) =
        if rt (dotv (vec p q) (vec p q)) * rt (dotv (vec p q) (vec p q)) ≠ dotv (vec p q) (vec p q) then some (.out (.inr 3))
        else if rt (dotv (vec p q) (vec p q)) < 1000 ∨ rt (dotv (vec p q) (vec p q)) > 1048576 then some (.out (.inr 2))
        else if i ≠ 0 ∧ dotv last (vec p q) ≤ 0 then some (.out (.inr 12)) else some (.go (((i + 1 : Nat) : Int), vec p q)) := by
      unfold curve_Check_l1
      dsimp only
      rw [w64_id (n := (c.Pts.length : Int) - 1) (by omega), w64_id (n := (i : Int) + 1) (by omega)]
      simp only [show (i : Int) < (c.Pts.length : Int) - 1 by omega, decide_true, cond_true, geti_drop hi, hg1, Option.bind_some, curve_from_eq hp hq, curve_dot_eq hv hv, curve_root_rt]
      by_cases h1 : rt (dotv (vec p q) (vec p q)) * rt (dotv (vec p q) (vec p q)) = dotv (vec p q) (vec p q)
      · simp only [h1, beq_self_eq_true, Bool.not_true, cond_false, ne_eq, not_true_eq_false, if_false]
        by_cases h2 : rt (dotv (vec p q) (vec p q)) < 1000 ∨ rt (dotv (vec p q) (vec p q)) > 1048576
        · rw [if_pos h2]
          have : (decide (rt (dotv (vec p q) (vec p q)) < 1000) || decide (rt (dotv (vec p q) (vec p q)) > 1048576)) = true := by simpa using h2
          rw [this]; rfl
        · rw [if_neg h2]
          have : (decide (rt (dotv (vec p q) (vec p q)) < 1000) || decide (rt (dotv (vec p q) (vec p q)) > 1048576)) = false := by simpa using h2
          rw [this]
          simp only [cond_false]
          by_cases h3 : i = 0
          · subst h3
            simp only [Int.natCast_zero, gt_iff_lt, Int.lt_irrefl, decide_false, cond_false, Bool.false_and, Option.bind_some, not_true_eq_false, false_and, if_false]
            rfl
          · have h4 : (i : Int) > 0 := by omega
            simp only [h4, decide_true, cond_true, curve_dot_eq hlast hv, Option.bind_some, Bool.true_and, h3, not_false_eq_true, true_and]
            by_cases h5 : dotv last (vec p q) ≤ 0 <;> simp [h5]
      · have : (rt (dotv (vec p q) (vec p q)) * rt (dotv (vec p q) (vec p q)) == dotv (vec p q) (vec p q)) = false := by simpa using h1
        simp only [this, Bool.not_false, cond_true, ne_eq, h1, not_false_eq_true, if_true]
    rw [goM_cons]
    by_cases h1 : rt (dotv (vec p q) (vec p q)) * rt (dotv (vec p q) (vec p q)) ≠ dotv (vec p q) (vec p q)
    · rw [if_pos h1] at hstep
      rw [loop_out hstep, if_pos h1]; rfl
    · rw [if_neg h1] at hstep ⊢
      by_cases h2 : rt (dotv (vec p q) (vec p q)) < 1000 ∨ rt (dotv (vec p q) (vec p q)) > 1048576
      · rw [if_pos h2] at hstep
        rw [loop_out hstep, if_pos h2]; rfl
      · rw [if_neg h2] at hstep ⊢
        by_cases h3 : i = 0
        · subst h3
          rw [if_neg (by simp)] at hstep
          rw [loop_go hstep, ih q (0 + 1) (vec p q) hi1 hv]
          simp
        · by_cases h5 : dotv last (vec p q) ≤ 0
          · rw [if_pos ⟨h3, h5⟩] at hstep
            rw [loop_out hstep]
            simp [h3, h5]
          · rw [if_neg (fun h => h5 h.2)] at hstep
            rw [loop_go hstep, ih q (i + 1) (vec p q) hi1 hv]
            simp [h3, h5]
theorem curve_Check_eq (c : Curve) (hl : c.Pts.length ≤ 1000000) : curve_Check c = some (checkM c.Pts) := by
  unfold curve_Check checkM
  by_cases h1 : c.Pts.length < 2
  · rw [if_pos h1, show decide ((c.Pts.length : Int) < 2) = true by simp; omega]; rfl
  · rw [if_neg h1, show decide ((c.Pts.length : Int) < 2) = false by simp; omega]
    simp only [cond_false]
    by_cases h2 : c.Pts.length > 16
    · rw [if_pos h2, show decide ((c.Pts.length : Int) > 16) = true by simp; omega]; rfl
    · rw [if_neg h2, show decide ((c.Pts.length : Int) > 16) = false by simp; omega]
      simp only [cond_false, curve_fair_eq c.Pts hl, Option.bind_some]
      cases h3 : c.Pts.all okS with
      | false => rfl
      | true =>
        simp only [Bool.not_true, cond_false, if_true]
        cases hp : c.Pts with
        | nil => rw [hp] at h1; simp at h1
        | cons p r =>
          have := curve_Check_go c hl h3 r p 0 ⟨0, 0⟩ (by rw [hp]; rfl) ⟨by decide, by decide, by decide, by decide⟩
          rw [if_pos rfl, show ((0 : Nat) : Int) = 0 from rfl] at this
          rw [this]
          by_cases h4 : goM none (p :: r) = 0
          · rw [if_pos h4, h4]; rfl
          · rw [if_neg h4]; rfl
end Go.Abs.Roadsz

namespace Go.Abs.Roadsz
open Go Go.Abs

theorem dotv_comm (v w : CurveVector) : dotv v w = dotv w v := by unfold dotv; rw [Int.mul_comm v.x, Int.mul_comm v.y]
theorem ref01_Check_go1 (c : Curve) (hl : c.Pts.length ≤ 1000000) : ∀ (r : List Spot) (i : Nat), c.Pts.drop i = r → loop (ref01_Check_l1 c) (i : Int) = some (if r.all okS then .inl () else .inr 2) := by
  intro r
  induction r with
  | nil =>
    intro i hi
    have := drop_nil hi
    refine loop_out ?_
    unfold ref01_Check_l1
    simp only [show ¬ (i : Int) < c.Pts.length by omega, decide_false, cond_false, List.all_nil, if_true]
  | cons p r ih =>
    intro i hi
    have hlt := drop_lt hi
    have hstep : ref01_Check_l1 c (i : Int) = if okS p then some (.go ((i + 1 : Nat) : Int)) else some (.out (.inr 2)) := by
      unfold ref01_Check_l1
      simp only [show (i : Int) < c.Pts.length by omega, decide_true, cond_true, geti_drop hi, Option.bind_some, ref01_Valid_eq]
      cases h : okS p with
      | true => simp only [Bool.not_true, cond_false, if_true]; rw [w64_id (by omega)]; rfl
      | false => simp
    cases h : okS p with
    | true =>
      rw [h, if_pos rfl] at hstep
      rw [loop_go hstep, ih (i + 1) (drop_succ hi)]
      simp [h]
    | false =>
      rw [h] at hstep
      rw [loop_out hstep]
      simp [h]
theorem sq_dot {v : CurveVector} (hv : okV v) : ∃ l, ref01_root (dotv v v) = some l ∧ (w64 (l * l) != dotv v v) = !(rt (dotv v v) * rt (dotv v v) == dotv v v) ∧ (rt (dotv v v) * rt (dotv v v) = dotv v v → l = rt (dotv v v)) := by
  have hb := dot_bd hv hv
  obtain ⟨l, h1, h2, h3, h4, h5⟩ := ref01_root_rt (dot_nonneg v) (by omega)
  have hmm : l * l ≤ 134217728 * 134217728 := sq_le (by omega) (by omega)
  have hmm0 := sq_nonneg l
  refine ⟨l, h1, ?_, fun h => h5 (h4.2 h)⟩
  rw [w64_id (by omega)]
  by_cases h : l * l = dotv v v
  · simp [h, h4.1 h]
  · have h' : ¬ rt (dotv v v) * rt (dotv v v) = dotv v v := fun q => h (h4.2 q)
    have e1 : (l * l != dotv v v) = true := bne_iff_ne.2 h
    have e2 : (rt (dotv v v) * rt (dotv v v) == dotv v v) = false := beq_eq_false_iff_ne.2 h'
    rw [e1, e2]; rfl
theorem ref01_Check_go2 (c : Curve) (hl : c.Pts.length ≤ 1000000) (hok : c.Pts.all okS = true) : ∀ (r : List Spot) (p : Spot) (i : Nat) (last : Option CurveVector), c.Pts.drop i = p :: r →
    (i = 0 ∧ last = none ∨ ∃ j a, i = j + 1 ∧ c.Pts.drop j = a :: p :: r ∧ last = some (vec a p)) →
    loop (ref01_Check_l2 c) (i : Int) = some (if goM last (p :: r) = 0 then .inl () else .inr (goM last (p :: r))) := by
  intro r
  induction r with
  | nil =>
    intro p i last hi hlast
    have hlt := drop_lt hi
    have := drop_nil (drop_succ hi)
    refine loop_out ?_
    unfold ref01_Check_l2
    rw [w64_id (n := (i : Int) + 1) (by omega)]
    simp only [show ¬ (i : Int) + 1 < (c.Pts.length : Int) by omega, decide_false, cond_false, goM, if_true]
  | cons q r ih =>
    intro p i last hi hlast
    have hlt := drop_lt hi
    have hi1 := drop_succ hi
    have hlt1 := drop_lt hi1
    have hp : okS p = true := List.all_eq_true.1 hok p (List.mem_of_mem_drop (i := i) (by rw [hi]; simp))
    have hq : okS q = true := List.all_eq_true.1 hok q (List.mem_of_mem_drop (i := i) (by rw [hi]; simp))
    have hv := okV_vec hp hq
    have hg1 : geti c.Pts ((i : Int) + 1) = some q := by have := geti_drop hi1; simpa using this
    obtain ⟨l, hl1, hl2, hl3⟩ := sq_dot hv
    have hstep : ref01_Check_l2 c (i : Int) =
        if rt (dotv (vec p q) (vec p q)) * rt (dotv (vec p q) (vec p q)) ≠ dotv (vec p q) (vec p q) then some (.out (.inr 3))
        else if rt (dotv (vec p q) (vec p q)) < 1000 ∨ rt (dotv (vec p q) (vec p q)) > 1048576 then some (.out (.inr 2))
        else match last with
          | some u => if dotv u (vec p q) ≤ 0 then some (.out (.inr 12)) else some (.go ((i + 1 : Nat) : Int))
          | none => some (.go ((i + 1 : Nat) : Int)) := by
      unfold ref01_Check_l2
      rw [w64_id (n := (i : Int) + 1) (by omega)]
      simp only [show (i : Int) + 1 < (c.Pts.length : Int) by omega, decide_true, cond_true, geti_drop hi, hg1, Option.bind_some, ref01_Minus_eq hp hq, ref01_Dot_eq hv hv, hl1, hl2]
      by_cases h1 : rt (dotv (vec p q) (vec p q)) * rt (dotv (vec p q) (vec p q)) = dotv (vec p q) (vec p q)
      · simp only [h1, beq_self_eq_true, Bool.not_true, cond_false, ne_eq, not_true_eq_false, if_false, hl3 h1]
        by_cases h2 : rt (dotv (vec p q) (vec p q)) < 1000 ∨ rt (dotv (vec p q) (vec p q)) > 1048576
        · rw [if_pos h2]
          have : (decide (rt (dotv (vec p q) (vec p q)) < 1000) || decide (rt (dotv (vec p q) (vec p q)) > 1048576)) = true := by simpa using h2
          rw [this]; rfl
        · rw [if_neg h2]
          have : (decide (rt (dotv (vec p q) (vec p q)) < 1000) || decide (rt (dotv (vec p q) (vec p q)) > 1048576)) = false := by simpa using h2
          rw [this]
          simp only [cond_false]
          rcases hlast with ⟨rfl, rfl⟩ | ⟨j, a, rfl, hj, rfl⟩
          · simp only [Int.natCast_zero, gt_iff_lt, Int.lt_irrefl, decide_false, cond_false, Bool.false_and, Option.bind_some]
            rfl
          · have h4 : (((j + 1 : Nat) : Int)) > 0 := by omega
            have ha : okS a = true := List.all_eq_true.1 hok a (List.mem_of_mem_drop (i := j) (by rw [hj]; simp))
            have hva := okV_vec ha hp
            have hgj : geti c.Pts (w64 (((j + 1 : Nat) : Int) - 1)) = some a := by
              rw [w64_id (by omega), show (((j + 1 : Nat) : Int) - 1) = (j : Int) by omega]
              exact geti_drop hj
            simp only [h4, decide_true, cond_true, hgj, Option.bind_some, ref01_Minus_eq ha hp, ref01_Dot_eq hv hva, Bool.true_and]
            rw [dotv_comm (vec p q) (vec a p)]
            by_cases h5 : dotv (vec a p) (vec p q) ≤ 0
            · simp [h5]
            · simp [h5]
      · have : (rt (dotv (vec p q) (vec p q)) * rt (dotv (vec p q) (vec p q)) == dotv (vec p q) (vec p q)) = false := by simpa using h1
        simp only [this, Bool.not_false, cond_true, ne_eq, h1, not_false_eq_true, if_true]
    rw [goM_cons]
    have hrec := ih q (i + 1) (some (vec p q)) hi1 (.inr ⟨i, p, rfl, hi, rfl⟩)
    by_cases h1 : rt (dotv (vec p q) (vec p q)) * rt (dotv (vec p q) (vec p q)) ≠ dotv (vec p q) (vec p q)
    · rw [if_pos h1] at hstep
      rw [loop_out hstep, if_pos h1]; rfl
    · rw [if_neg h1] at hstep ⊢
      by_cases h2 : rt (dotv (vec p q) (vec p q)) < 1000 ∨ rt (dotv (vec p q) (vec p q)) > 1048576
      · rw [if_pos h2] at hstep
        rw [loop_out hstep, if_pos h2]; rfl
      · rw [if_neg h2] at hstep ⊢
        cases last with
        | none => rw [loop_go hstep, hrec]
        | some u =>
          dsimp only at hstep ⊢
          by_cases h5 : dotv u (vec p q) ≤ 0
          · rw [if_pos h5] at hstep
            rw [loop_out hstep]; simp [h5]
          · rw [if_neg h5] at hstep
            rw [loop_go hstep, hrec]; simp [h5]
theorem ref01_Check_eq (c : Curve) (hl : c.Pts.length ≤ 1000000) : ref01_Check c = some (checkM c.Pts) := by
  unfold ref01_Check checkM
  by_cases h1 : c.Pts.length < 2
  · rw [if_pos h1, show decide ((c.Pts.length : Int) < 2) = true by simp; omega]; rfl
  · rw [if_neg h1, show decide ((c.Pts.length : Int) < 2) = false by simp; omega]
    simp only [cond_false]
    by_cases h2 : c.Pts.length > 16
    · rw [if_pos h2, show decide ((c.Pts.length : Int) > 16) = true by simp; omega]; rfl
    · rw [if_neg h2, show decide ((c.Pts.length : Int) > 16) = false by simp; omega]
      have hg := ref01_Check_go1 c hl c.Pts 0 (by simp)
      rw [show ((0 : Nat) : Int) = 0 from rfl] at hg
      simp only [cond_false, hg]
      cases h3 : c.Pts.all okS with
      | false => rfl
      | true =>
        simp only [if_true, thenS]
        cases hp : c.Pts with
        | nil => rw [hp] at h1; simp at h1
        | cons p r =>
          have := ref01_Check_go2 c hl h3 r p 0 none (by rw [hp]; rfl) (.inl ⟨rfl, rfl⟩)
          rw [show ((0 : Nat) : Int) = 0 from rfl] at this
          rw [this]
          by_cases h4 : goM none (p :: r) = 0
          · rw [if_pos h4, h4]
          · rw [if_neg h4]
/-- What a valid chain is. -/
inductive Good : Option CurveVector → List Spot → Prop
  | one (last : Option CurveVector) (p : Spot) : Good last [p]
  | cons (last : Option CurveVector) (p q : Spot) (r : List Spot) (h1 : rt (dotv (vec p q) (vec p q)) * rt (dotv (vec p q) (vec p q)) = dotv (vec p q) (vec p q)) (h2 : 1000 ≤ rt (dotv (vec p q) (vec p q))) (h3 : rt (dotv (vec p q) (vec p q)) ≤ 1048576)
      (h4 : ∀ u, last = some u → 0 < dotv u (vec p q)) (h : Good (some (vec p q)) (q :: r)) : Good last (p :: q :: r)
theorem good_of_goM : ∀ (r : List Spot) (p : Spot) (last : Option CurveVector), goM last (p :: r) = 0 → Good last (p :: r) := by
  intro r
  induction r with
  | nil => intro p last _; exact .one _ _
  | cons q r ih =>
    intro p last h
    rw [goM_cons] at h
    split at h
    · cases h
    · rename_i h1
      split at h
      · cases h
      · rename_i h2
        have h1 : rt (dotv (vec p q) (vec p q)) * rt (dotv (vec p q) (vec p q)) = dotv (vec p q) (vec p q) := by simpa using h1
        cases last with
        | none => exact .cons _ _ _ _ h1 (by omega) (by omega) (fun u hu => by cases hu) (ih q _ h)
        | some u =>
          dsimp only at h
          split at h
          · cases h
          · exact .cons _ _ _ _ h1 (by omega) (by omega) (fun u' hu => by cases hu; omega) (ih q _ h)
theorem goM_of_good {last : Option CurveVector} {l : List Spot} (h : Good last l) : goM last l = 0 := by
  induction h with
  | one => rfl
  | cons last p q r h1 h2 h3 h4 h ih =>
    rw [goM_cons, if_neg (by simpa using h1), if_neg (by omega)]
    cases last with
    | none => exact ih
    | some u => dsimp only; rw [if_neg (by have := h4 u rfl; omega)]; exact ih
structure Valid (l : List Spot) : Prop where
  two : 2 ≤ l.length
  most : l.length ≤ 16
  ok : l.all okS = true
  good : Good none l
theorem checkM_zero {l : List Spot} : checkM l = 0 ↔ Valid l := by
  unfold checkM
  constructor
  · intro h
    split at h
    · cases h
    · rename_i h1
      split at h
      · cases h
      · rename_i h2
        split at h
        · rename_i h3
          cases l with
          | nil => simp at h1
          | cons p r => exact ⟨by omega, by omega, h3, good_of_goM r p none h⟩
        · cases h
  · rintro ⟨h1, h2, h3, h4⟩
    rw [if_neg (by omega), if_neg (by omega), if_pos h3]
    exact goM_of_good h4
end Go.Abs.Roadsz

namespace Go.Abs.Roadsz
open Go Go.Abs

/-- The pieces of a chain: the number, the piece. -/
noncomputable def piecesM : Nat → Int → List Spot → List (Int × CurvePiece)
  | i, s, p :: q :: r => ((i : Int), ⟨p, vec p q, rt (dotv (vec p q) (vec p q)), s⟩) :: piecesM (i + 1) (w64 (s + rt (dotv (vec p q) (vec p q)))) (q :: r)
  | _, _, _ => []
theorem piecesM_cons (i : Nat) (s : Int) (p q : Spot) (r : List Spot) : piecesM i s (p :: q :: r) = ((i : Int), ⟨p, vec p q, rt (dotv (vec p q) (vec p q)), s⟩) :: piecesM (i + 1) (w64 (s + rt (dotv (vec p q) (vec p q)))) (q :: r) := by conv => lhs; unfold piecesM
theorem piecesGo_eq (pts : List Spot) (hok : pts.all okS = true) : ∀ (r : List Spot) (p : Spot) (i : Nat) (s : Int), pts.drop i = p :: r → piecesGo pts r.length i s = some (piecesM i s (p :: r)) := by
  intro r
  induction r with
  | nil => intro p i s _; rfl
  | cons q r ih =>
    intro p i s hi
    have hi1 := drop_succ hi
    have hp : okS p = true := List.all_eq_true.1 hok p (List.mem_of_mem_drop (i := i) (by rw [hi]; simp))
    have hq : okS q = true := List.all_eq_true.1 hok q (List.mem_of_mem_drop (i := i) (by rw [hi]; simp))
    have hv := okV_vec hp hq
    have h0 : pts[i]? = some p := by have := congrArg (fun z => z[0]?) hi; simpa using this
    have h1 : pts[i + 1]? = some q := by have := congrArg (fun z => z[0]?) hi1; simpa using this
    rw [List.length_cons, piecesGo, h0, h1]
    simp only [Option.bind_some, curve_from_eq hp hq, curve_dot_eq hv hv, curve_root_rt]
    rw [ih q (i + 1) _ hi1, piecesM_cons]
    rfl
theorem piecesC_eq {pts : List Spot} (h : Valid pts) : piecesC pts = some (piecesM 0 0 pts) := by
  unfold piecesC
  have := h.most
  rw [if_pos (by omega)]
  cases hp : pts with
  | nil => have := h.two; rw [hp] at this; simp at this
  | cons p r => exact piecesGo_eq (p :: r) (by rw [← hp]; exact h.ok) r p 0 0 rfl
/-- The lengths. -/
noncomputable def lens : List Spot → List Int
  | p :: q :: r => rt (dotv (vec p q) (vec p q)) :: lens (q :: r)
  | _ => []
theorem lens_cons (p q : Spot) (r : List Spot) : lens (p :: q :: r) = rt (dotv (vec p q) (vec p q)) :: lens (q :: r) := by conv => lhs; unfold lens
theorem lens_length : ∀ (r : List Spot) (p : Spot), (lens (p :: r)).length = r.length
  | [], _ => rfl
  | q :: r, p => by rw [lens_cons, List.length_cons, lens_length r q, List.length_cons]
theorem piecesM_lens : ∀ (r : List Spot) (p : Spot) (i : Nat) (s : Int), (piecesM i s (p :: r)).map (·.2.l) = lens (p :: r)
  | [], _, _, _ => rfl
  | q :: r, p, i, s => by rw [piecesM_cons, lens_cons, List.map_cons, piecesM_lens r q]
theorem pieces_loop : ∀ (L : List (Int × CurvePiece)) (out : List Int), out.length + L.length ≤ 1000000000 → loopL curve_Pieces_l1 (fun x => x) L out = some (out ++ L.map (·.2.l)) := by
  intro L
  induction L with
  | nil => intro out _; simp [loopL]
  | cons a L ih =>
    intro out h
    simp only [List.length_cons] at h
    have : curve_Pieces_l1 out a = some (.go (out ++ [a.2.l])) := by
      unfold curve_Pieces_l1
      rw [appc_ok (by simp; omega)]; rfl
    rw [loopL, this]
    dsimp only
    rw [ih _ (by simp; omega)]
    simp
theorem curve_Pieces_eq (c : Curve) (hl : c.Pts.length ≤ 1000000) : curve_Pieces c = some (if checkM c.Pts = 0 then lens c.Pts else []) := by
  unfold curve_Pieces
  rw [curve_Check_eq c hl, Option.bind_some]
  by_cases h : checkM c.Pts = 0
  · rw [if_pos h, h]
    have hv := checkM_zero.1 h
    have := hv.most
    simp only [bne_self_eq_false, cond_false, piecesC_eq hv, Option.bind_some]
    cases hp : c.Pts with
    | nil => have := hv.two; rw [hp] at this; simp at this
    | cons p r =>
      have e := piecesM_lens r p 0 0
      rw [pieces_loop _ _ (by
        have := congrArg List.length e
        rw [List.length_map, lens_length] at this
        rw [this]; rw [hp] at hl; simp at hl ⊢; omega)]
      rw [e]; rfl
  · rw [if_neg h, show (checkM c.Pts != 0) = true from bne_iff_ne.2 h]; rfl

theorem ref01_pieces_loop (c : Curve) (hl : c.Pts.length ≤ 1000000) (hok : c.Pts.all okS = true) : ∀ (r : List Spot) (p : Spot) (i : Nat) (out : List Int) (last : Option CurveVector), c.Pts.drop i = p :: r → Good last (p :: r) → out.length + r.length ≤ 1000000 →
    loop (ref01_Pieces_l1 c) (out, (i : Int)) = some (out ++ lens (p :: r)) := by
  intro r
  induction r with
  | nil =>
    intro p i out last hi _ _
    have hlt := drop_lt hi
    have := drop_nil (drop_succ hi)
    refine loop_out ?_
    unfold ref01_Pieces_l1
    dsimp only
    rw [w64_id (n := (i : Int) + 1) (by omega)]
    simp only [show ¬ (i : Int) + 1 < (c.Pts.length : Int) by omega, decide_false, cond_false, lens, List.append_nil]
  | cons q r ih =>
    intro p i out last hi hg ho
    have hlt := drop_lt hi
    have hi1 := drop_succ hi
    have hlt1 := drop_lt hi1
    have hp : okS p = true := List.all_eq_true.1 hok p (List.mem_of_mem_drop (i := i) (by rw [hi]; simp))
    have hq : okS q = true := List.all_eq_true.1 hok q (List.mem_of_mem_drop (i := i) (by rw [hi]; simp))
    have hv := okV_vec hp hq
    have hg1 : geti c.Pts ((i : Int) + 1) = some q := by have := geti_drop hi1; simpa using this
    obtain ⟨l, hl1, hl2, hl3⟩ := sq_dot hv
    cases hg with
    | cons _ _ _ _ h1 h2 h3 h4 hg =>
      have hll := hl3 h1
      subst hll
      simp only [List.length_cons] at ho
      have hstep : ref01_Pieces_l1 c (out, (i : Int)) = some (.go (out ++ [rt (dotv (vec p q) (vec p q))], ((i + 1 : Nat) : Int))) := by
        unfold ref01_Pieces_l1
        dsimp only
        rw [w64_id (n := (i : Int) + 1) (by omega)]
        simp only [show (i : Int) + 1 < (c.Pts.length : Int) by omega, decide_true, cond_true, geti_drop hi, hg1, Option.bind_some, ref01_Minus_eq hp hq, ref01_Dot_eq hv hv, hl1]
        rw [appc_ok (by simp; omega)]
        rfl
      rw [loop_go hstep, ih q (i + 1) _ _ hi1 hg (by simp; omega), lens_cons]
      simp
theorem ref01_Pieces_eq (c : Curve) (hl : c.Pts.length ≤ 1000000) : ref01_Pieces c = some (if checkM c.Pts = 0 then lens c.Pts else []) := by
  unfold ref01_Pieces
  rw [ref01_Check_eq c hl, Option.bind_some]
  by_cases h : checkM c.Pts = 0
  · rw [if_pos h, h]
    have hv := checkM_zero.1 h
    simp only [bne_self_eq_false, cond_false]
    cases hp : c.Pts with
    | nil => have := hv.two; rw [hp] at this; simp at this
    | cons p r =>
      have := ref01_pieces_loop c hl hv.ok r p 0 [] none (by rw [hp]; rfl) (by rw [← hp]; exact hv.good) (by rw [hp] at hl; simp at hl ⊢; omega)
      rw [show ((0 : Nat) : Int) = 0 from rfl] at this
      rw [this]; rfl
  · rw [if_neg h, show (checkM c.Pts != 0) = true from bne_iff_ne.2 h]; rfl

/-- A sum, as the programs take it. -/
def sumW : Int → List Int → Int
  | s, [] => s
  | s, a :: l => sumW (w64 (s + a)) l
theorem curve_Length_loop (l : List Int) (hl : l.length ≤ 1000000) : ∀ (r : List Int) (i : Nat) (s : Int), l.drop i = r → loop (curve_Length_l1 l) (s, (i : Int)) = some (sumW s r) := by
  intro r
  induction r with
  | nil =>
    intro i s hi
    have := drop_nil hi
    refine loop_out ?_
    unfold curve_Length_l1
    simp only [show ¬ (i : Int) < l.length by omega, decide_false, cond_false, sumW]
  | cons a r ih =>
    intro i s hi
    have hlt := drop_lt hi
    have hstep : curve_Length_l1 l (s, (i : Int)) = some (.go (w64 (s + a), ((i + 1 : Nat) : Int))) := by
      unfold curve_Length_l1
      simp only [show (i : Int) < l.length by omega, decide_true, cond_true, geti_drop hi, Option.bind_some]
      rw [w64_id (n := (i : Int) + 1) (by omega)]; rfl
    rw [loop_go hstep, ih (i + 1) _ (drop_succ hi), sumW]
theorem ref01_Length_loop (l : List Int) (hl : l.length ≤ 1000000) : ∀ (r : List Int) (i : Nat) (s : Int), l.drop i = r → loop (ref01_Length_l1 l) (s, (i : Int)) = some (sumW s r) := by
  intro r
  induction r with
  | nil =>
    intro i s hi
    have := drop_nil hi
    refine loop_out ?_
    unfold ref01_Length_l1
    simp only [show ¬ (i : Int) < l.length by omega, decide_false, cond_false, sumW]
  | cons a r ih =>
    intro i s hi
    have hlt := drop_lt hi
    have hstep : ref01_Length_l1 l (s, (i : Int)) = some (.go (w64 (s + a), ((i + 1 : Nat) : Int))) := by
      unfold ref01_Length_l1
      simp only [show (i : Int) < l.length by omega, decide_true, cond_true, geti_drop hi, Option.bind_some]
      rw [w64_id (n := (i : Int) + 1) (by omega)]; rfl
    rw [loop_go hstep, ih (i + 1) _ (drop_succ hi), sumW]
noncomputable def piecesL (c : Curve) : List Int := if checkM c.Pts = 0 then lens c.Pts else []
theorem lens_le : ∀ l : List Spot, (lens l).length ≤ l.length
  | [] => by simp [lens]
  | p :: r => by rw [lens_length]; simp
theorem piecesL_le (c : Curve) : (piecesL c).length ≤ c.Pts.length := by
  unfold piecesL
  split
  · exact lens_le _
  · simp
theorem curve_Length_eq (c : Curve) (hl : c.Pts.length ≤ 1000000) : curve_Length c = some (sumW 0 (piecesL c)) := by
  unfold curve_Length
  rw [curve_Pieces_eq c hl, Option.bind_some]
  have := piecesL_le c
  have h := curve_Length_loop (piecesL c) (by omega) (piecesL c) 0 0 (by simp)
  rw [show ((0 : Nat) : Int) = 0 from rfl] at h
  show (loop (curve_Length_l1 (piecesL c)) (0, 0)).bind _ = _
  rw [h]; rfl
theorem ref01_Length_eq (c : Curve) (hl : c.Pts.length ≤ 1000000) : ref01_Length c = some (sumW 0 (piecesL c)) := by
  unfold ref01_Length
  rw [ref01_Pieces_eq c hl, Option.bind_some]
  have := piecesL_le c
  have h := ref01_Length_loop (piecesL c) (by omega) (piecesL c) 0 0 (by simp)
  rw [show ((0 : Nat) : Int) = 0 from rfl] at h
  show (loop (ref01_Length_l1 (piecesL c)) (0, 0)).bind _ = _
  rw [h]; rfl
end Go.Abs.Roadsz




namespace Go.Abs.Roadsz
open Go Go.Abs

/-- A quarter turn, so many times. -/
def rotM : Nat → CurveVector → CurveVector
  | 0, v => v
  | n + 1, v => rotM n ⟨-v.y, v.x⟩
theorem rot_dot : ∀ (n : Nat) (v w : CurveVector), dotv (rotM n v) (rotM n w) = dotv v w
  | 0, _, _ => rfl
  | n + 1, v, w => by rw [rotM, rotM, rot_dot n]; unfold dotv; grind
/-- A piece's vector, made of numbers: in one quadrant. -/
def Quad (n : Nat) (v : CurveVector) : Prop := ∃ x y L : Int, v = rotM n ⟨x, y⟩ ∧ 0 < x ∧ 0 ≤ y ∧ x * x + y * y = L * L ∧ 1000 ≤ L ∧ L ≤ 3029 ∧ x ≤ L ∧ y ≤ L
inductive Ch (Q : CurveVector → Prop) : List Spot → Prop
  | one (p : Spot) : Ch Q [p]
  | cons (p q : Spot) (r : List Spot) (h : Q (vec p q)) (hr : Ch Q (q :: r)) : Ch Q (p :: q :: r)
theorem good_of_ch {n : Nat} : ∀ (r : List Spot) (p : Spot) (last : Option CurveVector), Ch (Quad n) (p :: r) → (∀ u, last = some u → Quad n u) → Good last (p :: r)
  | [], p, last, _, _ => .one _ _
  | q :: r, p, last, hc, hl => by
    cases hc with
    | cons _ _ _ h1 h2 =>
      have hq := h1
      obtain ⟨x, y, L, hv, hx, hy, hsq, hL1, hL2, hxL, hyL⟩ := h1
      have hd : dotv (vec p q) (vec p q) = L * L := by rw [hv, rot_dot]; unfold dotv; exact hsq
      have hrt : rt (dotv (vec p q) (vec p q)) = L := by rw [hd]; exact rt_sq (by omega) (by omega)
      refine .cons _ _ _ _ (by rw [hrt, hd]) (by rw [hrt]; exact hL1) (by rw [hrt]; omega) (fun u hu => ?_) (good_of_ch r q _ h2 (fun u hu => by cases hu; exact hq))
      obtain ⟨x', y', L', hv', hx', hy', _⟩ := hl u hu
      rw [hv, hv', rot_dot]
      unfold dotv
      have := Int.mul_pos hx' hx
      have := Int.mul_nonneg hy' hy
      dsimp only
      omega
/-- What the curves made of numbers are like. -/
structure Made (l : List Spot) : Prop where
  two : 2 ≤ l.length
  six : l.length ≤ 6
  ch : ∃ n, Ch (Quad n) l
  bd : ∀ p ∈ l, -50000 ≤ p.X ∧ p.X ≤ 50000 ∧ -50000 ≤ p.Y ∧ p.Y ≤ 50000
theorem Made.valid {l : List Spot} (h : Made l) : Valid l := by
  obtain ⟨n, hc⟩ := h.ch
  have := h.two; have := h.six
  refine ⟨h.two, by omega, List.all_eq_true.2 fun p hp => okS_iff.2 (by have := h.bd p hp; omega), ?_⟩
  match l, h, hc with
  | p :: r, _, hc => exact good_of_ch r p none hc (fun u hu => by cases hu)
  | [], h, _ => exact absurd h.two (by simp)
end Go.Abs.Roadsz

namespace Go.Abs.Roadsz
open Go Go.Abs

/-! ### Loops that look for the first error -/
def firstE {α β : Type} (g : Nat → α → Option β) : Nat → List α → Option β
  | _, [] => none
  | i, a :: r => match g i a with
    | some e => some e
    | none => firstE g (i + 1) r
def outE {β : Type} : Option β → Sum Unit β
  | some e => .inr e
  | none => .inl ()
theorem each_loop {α β : Type} (l : List α) (F : Int → Option (Stp Int (Sum Unit β))) (g : Nat → α → Option β) (hF : ∀ (i : Nat) a, l[i]? = some a → F (i : Int) = some (match g i a with | some e => .out (.inr e) | none => .go ((i + 1 : Nat) : Int))) (h0 : F (l.length : Int) = some (.out (.inl ()))) :
    loop F 0 = some (outE (firstE g 0 l)) := by
  have key : ∀ (r : List α) (i : Nat), l.drop i = r → i ≤ l.length → loop F (i : Int) = some (outE (firstE g i r)) := by
    intro r
    induction r with
    | nil =>
      intro i hi hil
      have : i = l.length := by have := List.drop_eq_nil_iff.1 hi; omega
      subst this
      exact loop_out h0
    | cons a r ih =>
      intro i hi hil
      have hlt : i < l.length := by
        rcases Nat.lt_or_ge i l.length with q | q
        · exact q
        · rw [List.drop_eq_nil_of_le q] at hi; cases hi
      have ha : l[i]? = some a := by have := congrArg (fun z => z[0]?) hi; simpa using this
      have hr : l.drop (i + 1) = r := by have := congrArg (fun z => z.drop 1) hi; simpa using this
      have hs := hF i a ha
      unfold firstE
      cases hg : g i a with
      | some e => rw [hg] at hs; exact loop_out hs
      | none => rw [hg] at hs; rw [loop_go hs]; exact ih (i + 1) hr (by omega)
  have := key l 0 rfl (by omega)
  exact this
theorem firstE_none {α β : Type} {g : Nat → α → Option β} : ∀ {l : List α} {i : Nat}, firstE g i l = none ↔ ∀ (j : Nat) a, l[j]? = some a → g (i + j) a = none
  | [], i => by simp [firstE]
  | a :: r, i => by
    unfold firstE
    cases h : g i a with
    | some e =>
      constructor
      · intro h'; cases h'
      · intro h'; have := h' 0 a rfl; rw [Nat.add_zero, h] at this; cases this
    | none =>
      dsimp only
      rw [firstE_none (l := r)]
      constructor
      · intro h' j b hj
        cases j with
        | zero => cases hj; exact h
        | succ j => have := h' j b hj; rwa [show i + 1 + j = i + (j + 1) by omega] at this
      · intro h' j b hj
        have := h' (j + 1) b hj
        rwa [show i + (j + 1) = i + 1 + j by omega] at this

/-! ### Numbers -/
def inR (n a b : Int) : Bool := decide (a ≤ n) && decide (n ≤ b)
theorem within_eq (n a b : Int) : roads_within n a b = some (inR n a b) := rfl
theorem rwithin_eq (n a b : Int) : ref03_within n a b = some (inR n a b) := rfl
def topM (kind : Int) : Int × Int × Int := if kind = 1 then (2000, 30, 90) else if kind = 2 then (1000, 20, 60) else if kind = 3 then (300, 100, 300) else (0, 0, 0)
theorem Bounds_eq (k : Int) : roads_Bounds k = some (topM k) := by
  unfold roads_Bounds topM
  by_cases h : k < 0 ∨ k ≥ 4
  · rw [show ((decide (k < 0)) || (decide (k ≥ 4))) = true by simpa using h, cond_true, if_neg (by omega), if_neg (by omega), if_neg (by omega)]
  · rw [show ((decide (k < 0)) || (decide (k ≥ 4))) = false by rw [Bool.eq_false_iff]; simpa using h, cond_false]
    obtain ⟨h1, h2⟩ := not_or.1 h
    rcases (show k = 0 ∨ k = 1 ∨ k = 2 ∨ k = 3 by omega) with rfl | rfl | rfl | rfl <;> rfl
theorem rBounds_eq (k : Int) : ref03_Bounds k = some (topM k) := by
  unfold ref03_Bounds topM
  by_cases h1 : k = 1
  · subst h1; rfl
  · by_cases h2 : k = 2
    · subst h2; rfl
    · by_cases h3 : k = 3
      · subst h3; rfl
      · rw [if_neg h1, if_neg h2, if_neg h3]
        rw [show (k == 1) = false by simpa using h1, show (k == 2) = false by simpa using h2, show (k == 3) = false by simpa using h3]; rfl
end Go.Abs.Roadsz

namespace Go.Abs.Roadsz
open Go Go.Abs
theorem wid {n : Int} (h : -9223372036854775808 ≤ n ∧ n ≤ 9223372036854775807) : w64 n = n := Go.IntWalk.i64_in n h
theorem geti_get {α : Type} {l : List α} {i : Nat} {a : α} (h : l[i]? = some a) : geti l (i : Int) = some a := by
  unfold geti; rw [if_pos (by omega), Int.toNat_natCast]; exact h
theorem lt_get {α : Type} {l : List α} {i : Nat} {a : α} (h : l[i]? = some a) : i < l.length := (List.getElem?_eq_some_iff.1 h).1
theorem cond_cc {α : Type} (c : Bool) (a b : α) : cond c (some a) (some b) = some (cond c a b) := by cases c <;> rfl
def riseM (high : Int) : Int → List Int → Bool
  | _, [] => true
  | low, n :: r => decide (low ≤ n) && decide (n < high) && riseM high (n + 1) r
theorem rising_eq (l : List Int) (low high : Int) (hl : l.length ≤ 1000000) (hh : high ≤ 1000000000) (h0 : 0 ≤ low) : roads_rising l low high = some (riseM high low l) := by
  have key : ∀ (r : List Int) (i : Nat) (lo : Int), 0 ≤ lo → l.drop i = r → i ≤ l.length → loop (roads_rising_l1 l high) (lo, (i : Int)) = some (if riseM high lo r then .inl () else .inr false) := by
    intro r
    induction r with
    | nil =>
      intro i lo _ hi hil
      have := drop_nil hi
      refine loop_out ?_
      unfold roads_rising_l1
      dsimp only
      rw [show decide ((i : Int) < (l.length : Int)) = false from decide_eq_false (by omega)]; rfl
    | cons n r ih =>
      intro i lo hlo hi hil
      have hlt := drop_lt hi
      have hs : roads_rising_l1 l high (lo, (i : Int)) = some (if decide (lo ≤ n) && decide (n < high) then .go (n + 1, ((i + 1 : Nat) : Int)) else .out (.inr false)) := by
        unfold roads_rising_l1
        dsimp only
        rw [show decide ((i : Int) < (l.length : Int)) = true from decide_eq_true (by omega), geti_drop hi, cond_true, Option.bind_some, wid (n := (i : Int) + 1) (by omega)]
        by_cases q : lo ≤ n ∧ n < high
        · rw [show ((decide (n < lo)) || (decide (n ≥ high))) = false by rw [Bool.eq_false_iff]; simp; omega, cond_false, wid (n := n + 1) (by omega), if_pos (by simpa using q)]; rfl
        · rw [show ((decide (n < lo)) || (decide (n ≥ high))) = true by simp; omega, cond_true, if_neg (by simpa using q)]
      unfold riseM
      cases q : (decide (lo ≤ n) && decide (n < high))
      · rw [q] at hs; rw [loop_out hs]; rfl
      · rw [q] at hs
        simp only [Bool.and_eq_true, decide_eq_true_eq] at q
        rw [loop_go hs, ih (i + 1) (n + 1) (by omega) (drop_succ hi) (by omega)]; rfl
  unfold roads_rising
  have := key l 0 low h0 rfl (by omega)
  rw [show ((0 : Nat) : Int) = 0 from rfl] at this
  rw [this]
  cases riseM high low l <;> rfl
theorem ordered_eq (l : List Int) (low high : Int) (hl : l.length ≤ 1000000) : ref03_ordered l low high = some (riseM high low l) := by
  have key : ∀ (r : List Int) (i : Nat) (lo : Int), low ≤ lo → (i = 0 → lo = low) → (0 < i → l[i - 1]? = some (lo - 1)) → l.drop i = r → i ≤ l.length → loop (ref03_ordered_l1 l low high) (i : Int) = some (if riseM high lo r then .inl () else .inr false) := by
    intro r
    induction r with
    | nil =>
      intro i lo _ _ _ hi hil
      have := drop_nil hi
      refine loop_out ?_
      unfold ref03_ordered_l1
      rw [show decide ((i : Int) < (l.length : Int)) = false from decide_eq_false (by omega)]; rfl
    | cons n r ih =>
      intro i lo hlo h0 h1 hi hil
      have hlt := drop_lt hi
      have hn : l[i]? = some n := by have := congrArg (fun z => z[0]?) hi; simpa using this
      have hs : ref03_ordered_l1 l low high (i : Int) = some (if decide (lo ≤ n) && decide (n < high) then .go ((i + 1 : Nat) : Int) else .out (.inr false)) := by
        unfold ref03_ordered_l1
        rw [show decide ((i : Int) < (l.length : Int)) = true from decide_eq_true (by omega), geti_drop hi, cond_true, Option.bind_some, cond_cc, Option.bind_some, cond_cc, Option.bind_some, wid (n := (i : Int) + 1) (by omega)]
        by_cases q1 : n < low
        · rw [decide_eq_true q1, if_neg (by simp; omega)]; rfl
        · rw [decide_eq_false q1]
          simp only [Bool.not_false, cond_true, Bool.false_or]
          by_cases q2 : n ≥ high
          · rw [decide_eq_true q2, if_neg (by simp; omega)]; rfl
          · rw [decide_eq_false q2]
            simp only [Bool.not_false, Bool.true_and, Bool.false_or]
            by_cases q3 : (i : Int) > 0
            · have e : geti l (w64 ((i : Int) - 1)) = some (lo - 1) := by
                rw [wid (n := (i : Int) - 1) (by omega), show (i : Int) - 1 = ((i - 1 : Nat) : Int) by omega]
                exact geti_get (h1 (by omega))
              rw [decide_eq_true q3, cond_true, cond_true, e, Option.bind_some, Bool.true_and]
              by_cases q4 : n ≤ lo - 1
              · rw [decide_eq_true q4, if_neg (by simp; omega)]; rfl
              · rw [decide_eq_false q4, if_pos (by simp; omega)]; rfl
            · have : lo = low := h0 (by omega)
              rw [decide_eq_false q3, cond_false, Option.bind_some, Bool.false_and, if_pos (by simp; omega)]; rfl
      unfold riseM
      cases q : (decide (lo ≤ n) && decide (n < high))
      · rw [q] at hs; rw [loop_out hs]; rfl
      · rw [q] at hs
        simp only [Bool.and_eq_true, decide_eq_true_eq] at q
        rw [loop_go hs, ih (i + 1) (n + 1) (by omega) (fun z => by omega) (fun _ => by rw [Nat.add_sub_cancel, hn]; congr 1; omega) (drop_succ hi) (by omega)]; rfl
  unfold ref03_ordered
  have := key l 0 low (Int.le_refl _) (fun _ => rfl) (fun z => by omega) rfl (by omega)
  rw [show ((0 : Nat) : Int) = 0 from rfl] at this
  rw [this]
  cases riseM high low l <;> rfl
end Go.Abs.Roadsz

namespace Go.Abs.Roadsz
open Go Go.Abs
noncomputable def lenM (c : Curve) : Int := sumW 0 (piecesL c)
theorem long_eq {m : Map} {i : Nat} {l : Lane} (h : m.Lanes[i]? = some l) (hl : l.Curve_.Pts.length ≤ 1000000) : roads_long m (i : Int) = some (lenM l.Curve_) := by
  unfold roads_long
  rw [geti_get h, Option.bind_some, curve_Length_eq _ hl]; rfl
/-- The lists of a map are of bearable lengths. -/
structure Bear (m : Map) : Prop where
  lanes : m.Lanes.length ≤ 1000000
  pts : ∀ l ∈ m.Lanes, l.Curve_.Pts.length ≤ 1000000 ∧ l.Next.length ≤ 1000000
noncomputable def laneE (n : Nat) (i : Nat) (l : Lane) : Option Int :=
  if (topM l.Kind).1 = 0 then some 4
  else if checkM l.Curve_.Pts ≠ 0 then some (checkM l.Curve_.Pts)
  else if (inR l.Half 200 4000 && inR l.Limit 1 (topM l.Kind).1) = false then some 2
  else if 3 < l.Next.length then some 8
  else if riseM n (i + 1) l.Next = false then some 11 else none
theorem lanes_eq {m : Map} (B : Bear m) : roads_check_lanes ⟨m⟩ = some ((firstE (laneE m.Lanes.length) 0 m.Lanes).getD 0) := by
  have h := each_loop m.Lanes (roads_check_lanes_l1 ⟨m⟩) (laneE m.Lanes.length) (fun i l hl => by
    have hi := lt_get hl
    have hb := B.lanes
    obtain ⟨p1, p2⟩ := B.pts l (List.mem_of_getElem? hl)
    unfold roads_check_lanes_l1 laneE
    dsimp only
    rw [show decide ((i : Int) < (m.Lanes.length : Int)) = true from decide_eq_true (by omega), geti_get hl, cond_true, Option.bind_some, Bounds_eq, Option.bind_some, curve_Check_eq _ p1, Option.bind_some, within_eq, within_eq, Option.bind_some, cond_cc, Option.bind_some, wid (n := (i : Int) + 1) (by omega), rising_eq _ _ _ p2 (by omega) (by omega), Option.bind_some]
    by_cases h1 : (topM l.Kind).1 = 0
    · rw [if_pos h1, show ((topM l.Kind).1 == 0) = true by simpa using h1]; rfl
    · rw [if_neg h1, show ((topM l.Kind).1 == 0) = false by simpa using h1, cond_false]
      by_cases h2 : checkM l.Curve_.Pts ≠ 0
      · rw [if_pos h2, show (checkM l.Curve_.Pts != 0) = true by simpa using h2]; rfl
      · rw [if_neg h2, show (checkM l.Curve_.Pts != 0) = false by simpa using h2, cond_false]
        cases inR l.Half 200 4000
        · rfl
        · cases inR l.Limit 1 (topM l.Kind).1
          · rfl
          · simp only [Bool.not_true, Bool.not_false, cond_true, cond_false, Bool.false_or, Bool.and_self]
            rw [if_neg (by decide)]
            by_cases h3 : 3 < l.Next.length
            · rw [if_pos h3, show decide ((l.Next.length : Int) > 3) = true from decide_eq_true (by omega)]; rfl
            · rw [if_neg h3, show decide ((l.Next.length : Int) > 3) = false from decide_eq_false (by omega), cond_false]
              cases riseM (m.Lanes.length : Int) ((i : Int) + 1) l.Next <;> rfl) (by
    unfold roads_check_lanes_l1
    dsimp only
    rw [show decide ((m.Lanes.length : Int) < (m.Lanes.length : Int)) = false from decide_eq_false (by omega)]; rfl)
  unfold roads_check_lanes
  rw [h]
  cases firstE (laneE m.Lanes.length) 0 m.Lanes <;> rfl
end Go.Abs.Roadsz
