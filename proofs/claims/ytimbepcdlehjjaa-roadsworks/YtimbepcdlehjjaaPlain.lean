/-
  Plain facts on the functions: what they compute, and that the law holds of it.
-/
import Derived.Test.YtimbepcdlehjjaaFns2

set_option maxRecDepth 100000
set_option linter.unusedVariables false
namespace Go.Abs.Roads
open Go Go.Abs
noncomputable def ref03_checkNext_l2 (p1 : Map) (v1 : Lane) (x2 : Int) : Option (Stp Int (Sum Unit Int)) :=
  cond (decide (x2 < (v1.Next.length : Int))) ((geti v1.Next x2).bind fun v2 => (geti p1.Lanes v2).bind fun v3 => cond (v3.Kind != v1.Kind) (some (.out (.inr 4))) ((geti v3.Curve_.Pts 0).bind fun v4 => (geti v1.Curve_.Pts (w64 ((v1.Curve_.Pts.length : Int) - 1))).bind fun v5 => cond (!(v4.X == v5.X && (v4.Y == v5.Y && true))) (some (.out (.inr 3))) (some (.go (w64 (x2 + 1)))))) (some (.out (.inl ())))

noncomputable def ref03_checkNext_l1 (p1 : Map) (x1 : Int) : Option (Stp Int (Sum Unit Int)) :=
  cond (decide (x1 < (p1.Lanes.length : Int))) ((geti p1.Lanes x1).bind fun v1 => thenS (loop (ref03_checkNext_l2 p1 v1) 0) (fun _ => some (.go (w64 (x1 + 1)))) (fun r => some (.out (.inr r)))) (some (.out (.inl ())))

noncomputable def ref03_checkNext (p1 : Map) : Option Int :=
  thenS (loop (ref03_checkNext_l1 p1) 0) (fun _ => some 0) (fun r => some r)
end Go.Abs.Roads

namespace Go.Abs.Roads
open Go Go.Abs
def kit_road_l1c (p4 : (List Int)) (x1 : (Int × Lane)) : Option (Stp (Int × Lane) Lane) :=
  cond (decide ((w64 (x1.1 + 1)) < (p4.length : Int))) ((geti p4 x1.1).bind fun v1 => (geti p4 (w64 (x1.1 + 1))).bind fun v2 => (appc x1.2.Curve_.Pts [(Spot.mk v1 v2)]).bind fun v3 => some (.go ((w64 (x1.1 + 2)), (Lane.mk x1.2.Kind (Curve.mk v3) x1.2.Half x1.2.Limit x1.2.Next)))) (some (.out x1.2))
theorem kit_road_l1_le (p4 : (List Int)) (x1 : (Int × Lane)) : Le (kit_road_l1c p4 x1) (kit_road_l1 p4 x1) := by
  unfold kit_road_l1c kit_road_l1
  repeat' first | with_reducible exact Le.refl _ | with_reducible refine Le.bind ?_ fun _ => ?_ | with_reducible refine Le.cond ?_ ?_ | with_reducible refine Le.ite ?_ ?_ | with_reducible refine Le.thenS ?_ (fun _ => ?_) (fun _ => ?_) | with_reducible refine Le.loop (fun _ => ?_) _ | with_reducible refine Le.loopL (fun _ _ => ?_) _ _ | exact Le.refl _
def kit_roadc (p1 : Int) (p2 : Int) (p3 : (List Int)) (p4 : (List Int)) : Option Lane :=
  (loopF (kit_road_l1c p4) (0, (Lane.mk p1 (Curve.mk []) 1500 p2 p3))).bind fun y1 => cond (p1 == 3) (some (Lane.mk y1.Kind y1.Curve_ 500 y1.Limit y1.Next)) (some y1)
theorem kit_road_le (p1 : Int) (p2 : Int) (p3 : (List Int)) (p4 : (List Int)) : Le (kit_roadc p1 p2 p3 p4) (kit_road p1 p2 p3 p4) := by
  unfold kit_roadc kit_road
  repeat' first | with_reducible exact Le.refl _ | with_reducible exact kit_road_l1_le _ _ | with_reducible refine Le.bind ?_ fun _ => ?_ | with_reducible refine Le.cond ?_ ?_ | with_reducible refine Le.ite ?_ ?_ | with_reducible refine Le.thenS ?_ (fun _ => ?_) (fun _ => ?_) | with_reducible refine Le.loop (fun _ => ?_) _ | with_reducible refine Le.loopL (fun _ _ => ?_) _ _ | exact Le.refl _
def kit_Crossc : Option Map :=
  (kit_roadc 1 1500 [] [0, 0, 100000, 0]).bind fun v1 => (kit_roadc 1 1500 [] [50000, (-50000), 50000, 50000]).bind fun v2 => some (Map.mk 0 [v1, v2] [(Zone.mk [(Part.mk 0 48000 52000 1), (Part.mk 1 48000 52000 0)] 0)] [] [])
theorem kit_Cross_le : Le (kit_Crossc) (kit_Cross) := by
  unfold kit_Crossc kit_Cross
  repeat' first | with_reducible exact Le.refl _ | with_reducible exact kit_road_le _ _ _ _ | with_reducible refine Le.bind ?_ fun _ => ?_ | with_reducible refine Le.cond ?_ ?_ | with_reducible refine Le.ite ?_ ?_ | with_reducible refine Le.thenS ?_ (fun _ => ?_) (fun _ => ?_) | with_reducible refine Le.loop (fun _ => ?_) _ | with_reducible refine Le.loopL (fun _ _ => ?_) _ _ | exact Le.refl _
def roads_withinc (p1 : Int) (p2 : Int) (p3 : Int) : Option Bool :=
  some ((decide (p2 ≤ p1)) && (decide (p1 ≤ p3)))
theorem roads_within_le (p1 : Int) (p2 : Int) (p3 : Int) : Le (roads_withinc p1 p2 p3) (roads_within p1 p2 p3) := by
  unfold roads_withinc roads_within
  repeat' first | with_reducible exact Le.refl _ | with_reducible refine Le.bind ?_ fun _ => ?_ | with_reducible refine Le.cond ?_ ?_ | with_reducible refine Le.ite ?_ ?_ | with_reducible refine Le.thenS ?_ (fun _ => ?_) (fun _ => ?_) | with_reducible refine Le.loop (fun _ => ?_) _ | with_reducible refine Le.loopL (fun _ _ => ?_) _ _ | exact Le.refl _
def roads_check_numbersc (p1 : RoadsCheck) : Option Int :=
  (roads_withinc p1.Map_.Version 0 1099511627776).bind fun v1 => cond (!v1) (some 2) (cond ((p1.Map_.Lanes.length : Int) == 0) (some 6) (cond ((((decide ((p1.Map_.Lanes.length : Int) > 12)) || (decide ((p1.Map_.Zones.length : Int) > 12))) || (decide ((p1.Map_.Signals.length : Int) > 4))) || (decide ((p1.Map_.Works.length : Int) > 8))) (some 8) (some 0)))
theorem roads_check_numbers_le (p1 : RoadsCheck) : Le (roads_check_numbersc p1) (roads_check_numbers p1) := by
  unfold roads_check_numbersc roads_check_numbers
  repeat' first | with_reducible exact Le.refl _ | with_reducible exact roads_within_le _ _ _ | with_reducible refine Le.bind ?_ fun _ => ?_ | with_reducible refine Le.cond ?_ ?_ | with_reducible refine Le.ite ?_ ?_ | with_reducible refine Le.thenS ?_ (fun _ => ?_) (fun _ => ?_) | with_reducible refine Le.loop (fun _ => ?_) _ | with_reducible refine Le.loopL (fun _ _ => ?_) _ _ | exact Le.refl _
def roads_Boundsc (p1 : Int) : Option (Int × Int × Int) :=
  cond ((decide (p1 < 0)) || (decide (p1 ≥ 4))) (some (0, 0, 0)) ((geti ([(0, 0, 0), (2000, 30, 90), (1000, 20, 60), (300, 100, 300)] : List (Int × Int × Int)) p1).bind fun v1 => some (v1.1, v1.2.1, v1.2.2))
theorem roads_Bounds_le (p1 : Int) : Le (roads_Boundsc p1) (roads_Bounds p1) := by
  unfold roads_Boundsc roads_Bounds
  repeat' first | with_reducible exact Le.refl _ | with_reducible refine Le.bind ?_ fun _ => ?_ | with_reducible refine Le.cond ?_ ?_ | with_reducible refine Le.ite ?_ ?_ | with_reducible refine Le.thenS ?_ (fun _ => ?_) (fun _ => ?_) | with_reducible refine Le.loop (fun _ => ?_) _ | with_reducible refine Le.loopL (fun _ _ => ?_) _ _ | exact Le.refl _
def curve_fair_l1c (p1 : (List Spot)) (x1 : Int) : Option (Stp Int (Sum Unit Bool)) :=
  cond (decide (x1 < (p1.length : Int))) ((geti p1 x1).bind fun v1 => cond ((decide ((mm2 false v1.X v1.Y) < (-16777216))) || (decide ((mm2 true v1.X v1.Y) > 16777216))) (some (.out (.inr false))) (some (.go (w64 (x1 + 1))))) (some (.out (.inl ())))
theorem curve_fair_l1_le (p1 : (List Spot)) (x1 : Int) : Le (curve_fair_l1c p1 x1) (curve_fair_l1 p1 x1) := by
  unfold curve_fair_l1c curve_fair_l1
  repeat' first | with_reducible exact Le.refl _ | with_reducible refine Le.bind ?_ fun _ => ?_ | with_reducible refine Le.cond ?_ ?_ | with_reducible refine Le.ite ?_ ?_ | with_reducible refine Le.thenS ?_ (fun _ => ?_) (fun _ => ?_) | with_reducible refine Le.loop (fun _ => ?_) _ | with_reducible refine Le.loopL (fun _ _ => ?_) _ _ | exact Le.refl _
def curve_fairc (p1 : (List Spot)) : Option Bool :=
  thenS (loopF (curve_fair_l1c p1) 0) (fun _ => some true) (fun r => some r)
theorem curve_fair_le (p1 : (List Spot)) : Le (curve_fairc p1) (curve_fair p1) := by
  unfold curve_fairc curve_fair
  repeat' first | with_reducible exact Le.refl _ | with_reducible exact curve_fair_l1_le _ _ | with_reducible refine Le.bind ?_ fun _ => ?_ | with_reducible refine Le.cond ?_ ?_ | with_reducible refine Le.ite ?_ ?_ | with_reducible refine Le.thenS ?_ (fun _ => ?_) (fun _ => ?_) | with_reducible refine Le.loop (fun _ => ?_) _ | with_reducible refine Le.loopL (fun _ _ => ?_) _ _ | exact Le.refl _
def curve_fromc (p1 : Spot) (p2 : Spot) : Option CurveVector :=
  some (CurveVector.mk (w64 (p2.X - p1.X)) (w64 (p2.Y - p1.Y)))
theorem curve_from_le (p1 : Spot) (p2 : Spot) : Le (curve_fromc p1 p2) (curve_from p1 p2) := by
  unfold curve_fromc curve_from
  repeat' first | with_reducible exact Le.refl _ | with_reducible refine Le.bind ?_ fun _ => ?_ | with_reducible refine Le.cond ?_ ?_ | with_reducible refine Le.ite ?_ ?_ | with_reducible refine Le.thenS ?_ (fun _ => ?_) (fun _ => ?_) | with_reducible refine Le.loop (fun _ => ?_) _ | with_reducible refine Le.loopL (fun _ _ => ?_) _ _ | exact Le.refl _
def curve_vector_dotc (p1 : CurveVector) (p2 : CurveVector) : Option Int :=
  some (w64 ((w64 (p1.x * p2.x)) + (w64 (p1.y * p2.y))))
theorem curve_vector_dot_le (p1 : CurveVector) (p2 : CurveVector) : Le (curve_vector_dotc p1 p2) (curve_vector_dot p1 p2) := by
  unfold curve_vector_dotc curve_vector_dot
  repeat' first | with_reducible exact Le.refl _ | with_reducible refine Le.bind ?_ fun _ => ?_ | with_reducible refine Le.cond ?_ ?_ | with_reducible refine Le.ite ?_ ?_ | with_reducible refine Le.thenS ?_ (fun _ => ?_) (fun _ => ?_) | with_reducible refine Le.loop (fun _ => ?_) _ | with_reducible refine Le.loopL (fun _ _ => ?_) _ _ | exact Le.refl _
def curve_root_l1c (p1 : Int) (x1 : (Int × Int)) : Option (Stp (Int × Int) Int) :=
  cond (decide (x1.1 < x1.2)) (cond (decide ((w64 ((w64 ((w64 (x1.1 + x1.2)).tdiv 2)) * (w64 ((w64 (x1.1 + x1.2)).tdiv 2)))) < p1)) (some (.go ((w64 ((w64 ((w64 (x1.1 + x1.2)).tdiv 2)) + 1)), x1.2))) (some (.go (x1.1, (w64 ((w64 (x1.1 + x1.2)).tdiv 2)))))) (some (.out x1.1))
theorem curve_root_l1_le (p1 : Int) (x1 : (Int × Int)) : Le (curve_root_l1c p1 x1) (curve_root_l1 p1 x1) := by
  unfold curve_root_l1c curve_root_l1
  repeat' first | with_reducible exact Le.refl _ | with_reducible refine Le.bind ?_ fun _ => ?_ | with_reducible refine Le.cond ?_ ?_ | with_reducible refine Le.ite ?_ ?_ | with_reducible refine Le.thenS ?_ (fun _ => ?_) (fun _ => ?_) | with_reducible refine Le.loop (fun _ => ?_) _ | with_reducible refine Le.loopL (fun _ _ => ?_) _ _ | exact Le.refl _
def curve_rootc (p1 : Int) : Option (Int × Bool) :=
  (loopF (curve_root_l1c p1) (0, 67108864)).bind fun y1 => some (y1, ((w64 (y1 * y1)) == p1))
theorem curve_root_le (p1 : Int) : Le (curve_rootc p1) (curve_root p1) := by
  unfold curve_rootc curve_root
  repeat' first | with_reducible exact Le.refl _ | with_reducible exact curve_root_l1_le _ _ | with_reducible refine Le.bind ?_ fun _ => ?_ | with_reducible refine Le.cond ?_ ?_ | with_reducible refine Le.ite ?_ ?_ | with_reducible refine Le.thenS ?_ (fun _ => ?_) (fun _ => ?_) | with_reducible refine Le.loop (fun _ => ?_) _ | with_reducible refine Le.loopL (fun _ _ => ?_) _ _ | exact Le.refl _
def curve_Check_l1c (p1 : Curve) (x1 : (Int × CurveVector)) : Option (Stp (Int × CurveVector) (Sum Unit Int)) :=
  cond (decide (x1.1 < (w64 ((p1.Pts.length : Int) - 1)))) ((geti p1.Pts x1.1).bind fun v2 => (geti p1.Pts (w64 (x1.1 + 1))).bind fun v3 => (curve_fromc v2 v3).bind fun v4 => (curve_vector_dotc v4 v4).bind fun v5 => (curve_rootc v5).bind fun v6 => cond (!v6.2) (some (.out (.inr 3))) (cond ((decide (v6.1 < 1000)) || (decide (v6.1 > 1048576))) (some (.out (.inr 2))) (((cond (decide (x1.1 > 0)) (curve_vector_dotc x1.2 v4) (some default))).bind fun v7 => cond ((decide (x1.1 > 0)) && (decide (v7 ≤ 0))) (some (.out (.inr 12))) (some (.go ((w64 (x1.1 + 1)), v4)))))) (some (.out (.inl ())))
theorem curve_Check_l1_le (p1 : Curve) (x1 : (Int × CurveVector)) : Le (curve_Check_l1c p1 x1) (curve_Check_l1 p1 x1) := by
  unfold curve_Check_l1c curve_Check_l1
  repeat' first | with_reducible exact Le.refl _ | with_reducible exact curve_from_le _ _ | with_reducible exact curve_vector_dot_le _ _ | with_reducible exact curve_root_le _ | with_reducible refine Le.bind ?_ fun _ => ?_ | with_reducible refine Le.cond ?_ ?_ | with_reducible refine Le.ite ?_ ?_ | with_reducible refine Le.thenS ?_ (fun _ => ?_) (fun _ => ?_) | with_reducible refine Le.loop (fun _ => ?_) _ | with_reducible refine Le.loopL (fun _ _ => ?_) _ _ | exact Le.refl _
def curve_Checkc (p1 : Curve) : Option Int :=
  cond (decide ((p1.Pts.length : Int) < 2)) (some 6) (cond (decide ((p1.Pts.length : Int) > 16)) (some 5) ((curve_fairc p1.Pts).bind fun v1 => cond (!v1) (some 2) (thenS (loopF (curve_Check_l1c p1) (0, (CurveVector.mk 0 0))) (fun _ => some 0) (fun r => some r))))
theorem curve_Check_le (p1 : Curve) : Le (curve_Checkc p1) (curve_Check p1) := by
  unfold curve_Checkc curve_Check
  repeat' first | with_reducible exact Le.refl _ | with_reducible exact curve_fair_le _ | with_reducible exact curve_Check_l1_le _ _ | with_reducible refine Le.bind ?_ fun _ => ?_ | with_reducible refine Le.cond ?_ ?_ | with_reducible refine Le.ite ?_ ?_ | with_reducible refine Le.thenS ?_ (fun _ => ?_) (fun _ => ?_) | with_reducible refine Le.loop (fun _ => ?_) _ | with_reducible refine Le.loopL (fun _ _ => ?_) _ _ | exact Le.refl _
def roads_rising_l1c (p1 : (List Int)) (p3 : Int) (x1 : (Int × Int)) : Option (Stp (Int × Int) (Sum Unit Bool)) :=
  cond (decide (x1.2 < (p1.length : Int))) ((geti p1 x1.2).bind fun v1 => cond ((decide (v1 < x1.1)) || (decide (v1 ≥ p3))) (some (.out (.inr false))) (some (.go ((w64 (v1 + 1)), (w64 (x1.2 + 1)))))) (some (.out (.inl ())))
theorem roads_rising_l1_le (p1 : (List Int)) (p3 : Int) (x1 : (Int × Int)) : Le (roads_rising_l1c p1 p3 x1) (roads_rising_l1 p1 p3 x1) := by
  unfold roads_rising_l1c roads_rising_l1
  repeat' first | with_reducible exact Le.refl _ | with_reducible refine Le.bind ?_ fun _ => ?_ | with_reducible refine Le.cond ?_ ?_ | with_reducible refine Le.ite ?_ ?_ | with_reducible refine Le.thenS ?_ (fun _ => ?_) (fun _ => ?_) | with_reducible refine Le.loop (fun _ => ?_) _ | with_reducible refine Le.loopL (fun _ _ => ?_) _ _ | exact Le.refl _
def roads_risingc (p1 : (List Int)) (p2 : Int) (p3 : Int) : Option Bool :=
  thenS (loopF (roads_rising_l1c p1 p3) (p2, 0)) (fun _ => some true) (fun r => some r)
theorem roads_rising_le (p1 : (List Int)) (p2 : Int) (p3 : Int) : Le (roads_risingc p1 p2 p3) (roads_rising p1 p2 p3) := by
  unfold roads_risingc roads_rising
  repeat' first | with_reducible exact Le.refl _ | with_reducible exact roads_rising_l1_le _ _ _ | with_reducible refine Le.bind ?_ fun _ => ?_ | with_reducible refine Le.cond ?_ ?_ | with_reducible refine Le.ite ?_ ?_ | with_reducible refine Le.thenS ?_ (fun _ => ?_) (fun _ => ?_) | with_reducible refine Le.loop (fun _ => ?_) _ | with_reducible refine Le.loopL (fun _ _ => ?_) _ _ | exact Le.refl _
def roads_check_lanes_l1c (p1 : RoadsCheck) (x1 : Int) : Option (Stp Int (Sum Unit Int)) :=
  cond (decide (x1 < (p1.Map_.Lanes.length : Int))) ((geti p1.Map_.Lanes x1).bind fun v1 => (roads_Boundsc v1.Kind).bind fun v2 => cond (v2.1 == 0) (some (.out (.inr 4))) ((curve_Checkc v1.Curve_).bind fun v3 => cond (v3 != 0) (some (.out (.inr v3))) ((roads_withinc v1.Half 200 4000).bind fun v4 => ((cond (!(!v4)) (roads_withinc v1.Limit 1 v2.1) (some default))).bind fun v5 => cond ((!v4) || (!v5)) (some (.out (.inr 2))) (cond (decide ((v1.Next.length : Int) > 3)) (some (.out (.inr 8))) ((roads_risingc v1.Next (w64 (x1 + 1)) (p1.Map_.Lanes.length : Int)).bind fun v6 => cond (!v6) (some (.out (.inr 11))) (some (.go (w64 (x1 + 1))))))))) (some (.out (.inl ())))
theorem roads_check_lanes_l1_le (p1 : RoadsCheck) (x1 : Int) : Le (roads_check_lanes_l1c p1 x1) (roads_check_lanes_l1 p1 x1) := by
  unfold roads_check_lanes_l1c roads_check_lanes_l1
  repeat' first | with_reducible exact Le.refl _ | with_reducible exact roads_Bounds_le _ | with_reducible exact curve_Check_le _ | with_reducible exact roads_within_le _ _ _ | with_reducible exact roads_rising_le _ _ _ | with_reducible refine Le.bind ?_ fun _ => ?_ | with_reducible refine Le.cond ?_ ?_ | with_reducible refine Le.ite ?_ ?_ | with_reducible refine Le.thenS ?_ (fun _ => ?_) (fun _ => ?_) | with_reducible refine Le.loop (fun _ => ?_) _ | with_reducible refine Le.loopL (fun _ _ => ?_) _ _ | exact Le.refl _
def roads_check_lanesc (p1 : RoadsCheck) : Option Int :=
  thenS (loopF (roads_check_lanes_l1c p1) 0) (fun _ => some 0) (fun r => some r)
theorem roads_check_lanes_le (p1 : RoadsCheck) : Le (roads_check_lanesc p1) (roads_check_lanes p1) := by
  unfold roads_check_lanesc roads_check_lanes
  repeat' first | with_reducible exact Le.refl _ | with_reducible exact roads_check_lanes_l1_le _ _ | with_reducible refine Le.bind ?_ fun _ => ?_ | with_reducible refine Le.cond ?_ ?_ | with_reducible refine Le.ite ?_ ?_ | with_reducible refine Le.thenS ?_ (fun _ => ?_) (fun _ => ?_) | with_reducible refine Le.loop (fun _ => ?_) _ | with_reducible refine Le.loopL (fun _ _ => ?_) _ _ | exact Le.refl _
def roads_check_joints_l2c (p1 : RoadsCheck) (v1 : Lane) (v2 : Spot) (x2 : Int) : Option (Stp Int (Sum Unit Int)) :=
  cond (decide (x2 < (v1.Next.length : Int))) ((geti v1.Next x2).bind fun v3 => (geti p1.Map_.Lanes v3).bind fun v4 => cond (v4.Kind != v1.Kind) (some (.out (.inr 4))) ((geti p1.Map_.Lanes v3).bind fun v5 => (geti v5.Curve_.Pts 0).bind fun v6 => cond (!(v6.X == v2.X && (v6.Y == v2.Y && true))) (some (.out (.inr 3))) (some (.go (w64 (x2 + 1)))))) (some (.out (.inl ())))
theorem roads_check_joints_l2_le (p1 : RoadsCheck) (v1 : Lane) (v2 : Spot) (x2 : Int) : Le (roads_check_joints_l2c p1 v1 v2 x2) (roads_check_joints_l2 p1 v1 v2 x2) := by
  unfold roads_check_joints_l2c roads_check_joints_l2
  repeat' first | with_reducible exact Le.refl _ | with_reducible refine Le.bind ?_ fun _ => ?_ | with_reducible refine Le.cond ?_ ?_ | with_reducible refine Le.ite ?_ ?_ | with_reducible refine Le.thenS ?_ (fun _ => ?_) (fun _ => ?_) | with_reducible refine Le.loop (fun _ => ?_) _ | with_reducible refine Le.loopL (fun _ _ => ?_) _ _ | exact Le.refl _
def roads_check_joints_l1c (p1 : RoadsCheck) (x1 : Int) : Option (Stp Int (Sum Unit Int)) :=
  cond (decide (x1 < (p1.Map_.Lanes.length : Int))) ((geti p1.Map_.Lanes x1).bind fun v1 => (geti v1.Curve_.Pts (w64 ((v1.Curve_.Pts.length : Int) - 1))).bind fun v2 => thenS (loopF (roads_check_joints_l2c p1 v1 v2) 0) (fun _ => some (.go (w64 (x1 + 1)))) (fun r => some (.out (.inr r)))) (some (.out (.inl ())))
theorem roads_check_joints_l1_le (p1 : RoadsCheck) (x1 : Int) : Le (roads_check_joints_l1c p1 x1) (roads_check_joints_l1 p1 x1) := by
  unfold roads_check_joints_l1c roads_check_joints_l1
  repeat' first | with_reducible exact Le.refl _ | with_reducible exact roads_check_joints_l2_le _ _ _ _ | with_reducible refine Le.bind ?_ fun _ => ?_ | with_reducible refine Le.cond ?_ ?_ | with_reducible refine Le.ite ?_ ?_ | with_reducible refine Le.thenS ?_ (fun _ => ?_) (fun _ => ?_) | with_reducible refine Le.loop (fun _ => ?_) _ | with_reducible refine Le.loopL (fun _ _ => ?_) _ _ | exact Le.refl _
def roads_check_jointsc (p1 : RoadsCheck) : Option Int :=
  thenS (loopF (roads_check_joints_l1c p1) 0) (fun _ => some 0) (fun r => some r)
theorem roads_check_joints_le (p1 : RoadsCheck) : Le (roads_check_jointsc p1) (roads_check_joints p1) := by
  unfold roads_check_jointsc roads_check_joints
  repeat' first | with_reducible exact Le.refl _ | with_reducible exact roads_check_joints_l1_le _ _ | with_reducible refine Le.bind ?_ fun _ => ?_ | with_reducible refine Le.cond ?_ ?_ | with_reducible refine Le.ite ?_ ?_ | with_reducible refine Le.thenS ?_ (fun _ => ?_) (fun _ => ?_) | with_reducible refine Le.loop (fun _ => ?_) _ | with_reducible refine Le.loopL (fun _ _ => ?_) _ _ | exact Le.refl _
def roads_check_signals_1c (p1 : Phase) : Option Bool :=
  (roads_withinc p1.Ticks 1 10000).bind fun v1 => some (!v1)
theorem roads_check_signals_1_le (p1 : Phase) : Le (roads_check_signals_1c p1) (roads_check_signals_1 p1) := by
  unfold roads_check_signals_1c roads_check_signals_1
  repeat' first | with_reducible exact Le.refl _ | with_reducible exact roads_within_le _ _ _ | with_reducible refine Le.bind ?_ fun _ => ?_ | with_reducible refine Le.cond ?_ ?_ | with_reducible refine Le.ite ?_ ?_ | with_reducible refine Le.thenS ?_ (fun _ => ?_) (fun _ => ?_) | with_reducible refine Le.loop (fun _ => ?_) _ | with_reducible refine Le.loopL (fun _ _ => ?_) _ _ | exact Le.refl _
def slices_IndexFunc_Phase_Phase_roads_check_signals_1_l1c (p1 : (List Phase)) (x1 : Int) : Option (Stp Int (Sum Unit Int)) :=
  cond (decide (x1 < (p1.length : Int))) ((geti p1 x1).bind fun v1 => (roads_check_signals_1c v1).bind fun v2 => cond v2 (some (.out (.inr x1))) (some (.go (w64 (x1 + 1))))) (some (.out (.inl ())))
theorem slices_IndexFunc_Phase_Phase_roads_check_signals_1_l1_le (p1 : (List Phase)) (x1 : Int) : Le (slices_IndexFunc_Phase_Phase_roads_check_signals_1_l1c p1 x1) (slices_IndexFunc_Phase_Phase_roads_check_signals_1_l1 p1 x1) := by
  unfold slices_IndexFunc_Phase_Phase_roads_check_signals_1_l1c slices_IndexFunc_Phase_Phase_roads_check_signals_1_l1
  repeat' first | with_reducible exact Le.refl _ | with_reducible exact roads_check_signals_1_le _ | with_reducible refine Le.bind ?_ fun _ => ?_ | with_reducible refine Le.cond ?_ ?_ | with_reducible refine Le.ite ?_ ?_ | with_reducible refine Le.thenS ?_ (fun _ => ?_) (fun _ => ?_) | with_reducible refine Le.loop (fun _ => ?_) _ | with_reducible refine Le.loopL (fun _ _ => ?_) _ _ | exact Le.refl _
def slices_IndexFunc_Phase_Phase_roads_check_signals_1c (p1 : (List Phase)) : Option Int :=
  thenS (loopF (slices_IndexFunc_Phase_Phase_roads_check_signals_1_l1c p1) 0) (fun _ => some (-1)) (fun r => some r)
theorem slices_IndexFunc_Phase_Phase_roads_check_signals_1_le (p1 : (List Phase)) : Le (slices_IndexFunc_Phase_Phase_roads_check_signals_1c p1) (slices_IndexFunc_Phase_Phase_roads_check_signals_1 p1) := by
  unfold slices_IndexFunc_Phase_Phase_roads_check_signals_1c slices_IndexFunc_Phase_Phase_roads_check_signals_1
  repeat' first | with_reducible exact Le.refl _ | with_reducible exact slices_IndexFunc_Phase_Phase_roads_check_signals_1_l1_le _ _ | with_reducible refine Le.bind ?_ fun _ => ?_ | with_reducible refine Le.cond ?_ ?_ | with_reducible refine Le.ite ?_ ?_ | with_reducible refine Le.thenS ?_ (fun _ => ?_) (fun _ => ?_) | with_reducible refine Le.loop (fun _ => ?_) _ | with_reducible refine Le.loopL (fun _ _ => ?_) _ _ | exact Le.refl _
def slices_ContainsFunc_Phase_Phase_roads_check_signals_1c (p1 : (List Phase)) : Option Bool :=
  (slices_IndexFunc_Phase_Phase_roads_check_signals_1c p1).bind fun v1 => some (decide (v1 ≥ 0))
theorem slices_ContainsFunc_Phase_Phase_roads_check_signals_1_le (p1 : (List Phase)) : Le (slices_ContainsFunc_Phase_Phase_roads_check_signals_1c p1) (slices_ContainsFunc_Phase_Phase_roads_check_signals_1 p1) := by
  unfold slices_ContainsFunc_Phase_Phase_roads_check_signals_1c slices_ContainsFunc_Phase_Phase_roads_check_signals_1
  repeat' first | with_reducible exact Le.refl _ | with_reducible exact slices_IndexFunc_Phase_Phase_roads_check_signals_1_le _ | with_reducible refine Le.bind ?_ fun _ => ?_ | with_reducible refine Le.cond ?_ ?_ | with_reducible refine Le.ite ?_ ?_ | with_reducible refine Le.thenS ?_ (fun _ => ?_) (fun _ => ?_) | with_reducible refine Le.loop (fun _ => ?_) _ | with_reducible refine Le.loopL (fun _ _ => ?_) _ _ | exact Le.refl _
def roads_check_signals_2_bc (p1 : Phase) (p2 : RoadsCheck) : Option Bool :=
  (roads_risingc p1.Green 0 (p2.Map_.Lanes.length : Int)).bind fun v1 => some (!v1)
theorem roads_check_signals_2_b_le (p1 : Phase) (p2 : RoadsCheck) : Le (roads_check_signals_2_bc p1 p2) (roads_check_signals_2_b p1 p2) := by
  unfold roads_check_signals_2_bc roads_check_signals_2_b
  repeat' first | with_reducible exact Le.refl _ | with_reducible exact roads_rising_le _ _ _ | with_reducible refine Le.bind ?_ fun _ => ?_ | with_reducible refine Le.cond ?_ ?_ | with_reducible refine Le.ite ?_ ?_ | with_reducible refine Le.thenS ?_ (fun _ => ?_) (fun _ => ?_) | with_reducible refine Le.loop (fun _ => ?_) _ | with_reducible refine Le.loopL (fun _ _ => ?_) _ _ | exact Le.refl _
def slices_IndexFunc_Phase_Phase_roads_check_signals_2b_l1c (p1 : (List Phase)) (p2 : RoadsCheck) (x1 : Int) : Option (Stp Int (Sum Unit Int)) :=
  cond (decide (x1 < (p1.length : Int))) ((geti p1 x1).bind fun v1 => (roads_check_signals_2_bc v1 p2).bind fun v2 => cond v2 (some (.out (.inr x1))) (some (.go (w64 (x1 + 1))))) (some (.out (.inl ())))
theorem slices_IndexFunc_Phase_Phase_roads_check_signals_2b_l1_le (p1 : (List Phase)) (p2 : RoadsCheck) (x1 : Int) : Le (slices_IndexFunc_Phase_Phase_roads_check_signals_2b_l1c p1 p2 x1) (slices_IndexFunc_Phase_Phase_roads_check_signals_2b_l1 p1 p2 x1) := by
  unfold slices_IndexFunc_Phase_Phase_roads_check_signals_2b_l1c slices_IndexFunc_Phase_Phase_roads_check_signals_2b_l1
  repeat' first | with_reducible exact Le.refl _ | with_reducible exact roads_check_signals_2_b_le _ _ | with_reducible refine Le.bind ?_ fun _ => ?_ | with_reducible refine Le.cond ?_ ?_ | with_reducible refine Le.ite ?_ ?_ | with_reducible refine Le.thenS ?_ (fun _ => ?_) (fun _ => ?_) | with_reducible refine Le.loop (fun _ => ?_) _ | with_reducible refine Le.loopL (fun _ _ => ?_) _ _ | exact Le.refl _
def slices_IndexFunc_Phase_Phase_roads_check_signals_2bc (p1 : (List Phase)) (p2 : RoadsCheck) : Option Int :=
  thenS (loopF (slices_IndexFunc_Phase_Phase_roads_check_signals_2b_l1c p1 p2) 0) (fun _ => some (-1)) (fun r => some r)
theorem slices_IndexFunc_Phase_Phase_roads_check_signals_2b_le (p1 : (List Phase)) (p2 : RoadsCheck) : Le (slices_IndexFunc_Phase_Phase_roads_check_signals_2bc p1 p2) (slices_IndexFunc_Phase_Phase_roads_check_signals_2b p1 p2) := by
  unfold slices_IndexFunc_Phase_Phase_roads_check_signals_2bc slices_IndexFunc_Phase_Phase_roads_check_signals_2b
  repeat' first | with_reducible exact Le.refl _ | with_reducible exact slices_IndexFunc_Phase_Phase_roads_check_signals_2b_l1_le _ _ _ | with_reducible refine Le.bind ?_ fun _ => ?_ | with_reducible refine Le.cond ?_ ?_ | with_reducible refine Le.ite ?_ ?_ | with_reducible refine Le.thenS ?_ (fun _ => ?_) (fun _ => ?_) | with_reducible refine Le.loop (fun _ => ?_) _ | with_reducible refine Le.loopL (fun _ _ => ?_) _ _ | exact Le.refl _
def slices_ContainsFunc_Phase_Phase_roads_check_signals_2bc (p1 : (List Phase)) (p2 : RoadsCheck) : Option Bool :=
  (slices_IndexFunc_Phase_Phase_roads_check_signals_2bc p1 p2).bind fun v1 => some (decide (v1 ≥ 0))
theorem slices_ContainsFunc_Phase_Phase_roads_check_signals_2b_le (p1 : (List Phase)) (p2 : RoadsCheck) : Le (slices_ContainsFunc_Phase_Phase_roads_check_signals_2bc p1 p2) (slices_ContainsFunc_Phase_Phase_roads_check_signals_2b p1 p2) := by
  unfold slices_ContainsFunc_Phase_Phase_roads_check_signals_2bc slices_ContainsFunc_Phase_Phase_roads_check_signals_2b
  repeat' first | with_reducible exact Le.refl _ | with_reducible exact slices_IndexFunc_Phase_Phase_roads_check_signals_2b_le _ _ | with_reducible refine Le.bind ?_ fun _ => ?_ | with_reducible refine Le.cond ?_ ?_ | with_reducible refine Le.ite ?_ ?_ | with_reducible refine Le.thenS ?_ (fun _ => ?_) (fun _ => ?_) | with_reducible refine Le.loop (fun _ => ?_) _ | with_reducible refine Le.loopL (fun _ _ => ?_) _ _ | exact Le.refl _
def roads_check_signals_l1c (p1 : RoadsCheck) (x1 : Int) : Option (Stp Int (Sum Unit Int)) :=
  cond (decide (x1 < (p1.Map_.Signals.length : Int))) ((geti p1.Map_.Signals x1).bind fun v1 => cond ((v1.Phases.length : Int) == 0) (some (.out (.inr 6))) (cond (decide ((v1.Phases.length : Int) > 6)) (some (.out (.inr 8))) ((roads_withinc v1.Offset 0 1099511627776).bind fun v2 => cond (!v2) (some (.out (.inr 2))) ((slices_ContainsFunc_Phase_Phase_roads_check_signals_1c v1.Phases).bind fun v3 => cond v3 (some (.out (.inr 2))) ((slices_ContainsFunc_Phase_Phase_roads_check_signals_2bc v1.Phases p1).bind fun v4 => cond v4 (some (.out (.inr 11))) (some (.go (w64 (x1 + 1))))))))) (some (.out (.inl ())))
theorem roads_check_signals_l1_le (p1 : RoadsCheck) (x1 : Int) : Le (roads_check_signals_l1c p1 x1) (roads_check_signals_l1 p1 x1) := by
  unfold roads_check_signals_l1c roads_check_signals_l1
  repeat' first | with_reducible exact Le.refl _ | with_reducible exact roads_within_le _ _ _ | with_reducible exact slices_ContainsFunc_Phase_Phase_roads_check_signals_1_le _ | with_reducible exact slices_ContainsFunc_Phase_Phase_roads_check_signals_2b_le _ _ | with_reducible refine Le.bind ?_ fun _ => ?_ | with_reducible refine Le.cond ?_ ?_ | with_reducible refine Le.ite ?_ ?_ | with_reducible refine Le.thenS ?_ (fun _ => ?_) (fun _ => ?_) | with_reducible refine Le.loop (fun _ => ?_) _ | with_reducible refine Le.loopL (fun _ _ => ?_) _ _ | exact Le.refl _
def roads_check_signalsc (p1 : RoadsCheck) : Option Int :=
  thenS (loopF (roads_check_signals_l1c p1) 0) (fun _ => some 0) (fun r => some r)
theorem roads_check_signals_le (p1 : RoadsCheck) : Le (roads_check_signalsc p1) (roads_check_signals p1) := by
  unfold roads_check_signalsc roads_check_signals
  repeat' first | with_reducible exact Le.refl _ | with_reducible exact roads_check_signals_l1_le _ _ | with_reducible refine Le.bind ?_ fun _ => ?_ | with_reducible refine Le.cond ?_ ?_ | with_reducible refine Le.ite ?_ ?_ | with_reducible refine Le.thenS ?_ (fun _ => ?_) (fun _ => ?_) | with_reducible refine Le.loop (fun _ => ?_) _ | with_reducible refine Le.loopL (fun _ _ => ?_) _ _ | exact Le.refl _
def piecesGoc (pts : List Spot) : Nat → Nat → Int → Option (List (Int × CurvePiece))
  | 0, _, _ => some []
  | n + 1, i, start => (pts[i]?).bind fun p => (pts[i + 1]?).bind fun q => (curve_fromc p q).bind fun v => (curve_vector_dotc v v).bind fun d => (curve_rootc d).bind fun r =>
    (piecesGoc pts n (i + 1) (w64 (start + r.1))).bind fun l => some (((i : Int), CurvePiece.mk p v r.1 start) :: l)
theorem piecesGo_le (pts : List Spot) : ∀ (n i : Nat) (s : Int), Le (piecesGoc pts n i s) (piecesGo pts n i s)
  | 0, i, s => Le.refl _
  | n + 1, i, s => by
    rw [piecesGo, piecesGoc]
    exact Le.bind (Le.refl _) fun _ => Le.bind (Le.refl _) fun _ => Le.bind (curve_from_le _ _) fun _ => Le.bind (curve_vector_dot_le _ _) fun _ => Le.bind (curve_root_le _) fun _ => Le.bind (piecesGo_le pts n _ _) fun _ => Le.refl _
def piecesCc (pts : List Spot) : Option (List (Int × CurvePiece)) := if pts.length ≤ 1000000 then piecesGoc pts (pts.length - 1) 0 0 else none
theorem piecesC_le (pts : List Spot) : Le (piecesCc pts) (piecesC pts) := by
  unfold piecesCc piecesC
  repeat' first | with_reducible exact Le.refl _ | with_reducible exact piecesGo_le _ _ _ _ | with_reducible refine Le.bind ?_ fun _ => ?_ | with_reducible refine Le.cond ?_ ?_ | with_reducible refine Le.ite ?_ ?_ | with_reducible refine Le.thenS ?_ (fun _ => ?_) (fun _ => ?_) | with_reducible refine Le.loop (fun _ => ?_) _ | with_reducible refine Le.loopL (fun _ _ => ?_) _ _ | exact Le.refl _
def curve_Pieces_l1c (x1 : (List Int)) (a1 : (Int × CurvePiece)) : Option (Stp (List Int) (List Int)) :=
  (appc x1 [a1.2.l]).bind fun v3 => some (.go v3)
theorem curve_Pieces_l1_le (x1 : (List Int)) (a1 : (Int × CurvePiece)) : Le (curve_Pieces_l1c x1 a1) (curve_Pieces_l1 x1 a1) := by
  unfold curve_Pieces_l1c curve_Pieces_l1
  repeat' first | with_reducible exact Le.refl _ | with_reducible refine Le.bind ?_ fun _ => ?_ | with_reducible refine Le.cond ?_ ?_ | with_reducible refine Le.ite ?_ ?_ | with_reducible refine Le.thenS ?_ (fun _ => ?_) (fun _ => ?_) | with_reducible refine Le.loop (fun _ => ?_) _ | with_reducible refine Le.loopL (fun _ _ => ?_) _ _ | exact Le.refl _
def curve_Piecesc (p1 : Curve) : Option (List Int) :=
  (curve_Checkc p1).bind fun v1 => cond (v1 != 0) (some []) (((piecesCc p1.Pts).bind fun v2 => loopL (curve_Pieces_l1c) (fun (x1 : (List Int)) => x1) v2 []).bind fun y1 => some y1)
theorem curve_Pieces_le (p1 : Curve) : Le (curve_Piecesc p1) (curve_Pieces p1) := by
  unfold curve_Piecesc curve_Pieces
  repeat' first | with_reducible exact Le.refl _ | with_reducible exact curve_Check_le _ | with_reducible exact piecesC_le _ | with_reducible exact curve_Pieces_l1_le _ _ | with_reducible refine Le.bind ?_ fun _ => ?_ | with_reducible refine Le.cond ?_ ?_ | with_reducible refine Le.ite ?_ ?_ | with_reducible refine Le.thenS ?_ (fun _ => ?_) (fun _ => ?_) | with_reducible refine Le.loop (fun _ => ?_) _ | with_reducible refine Le.loopL (fun _ _ => ?_) _ _ | exact Le.refl _
def curve_Length_l1c (v1 : (List Int)) (x1 : (Int × Int)) : Option (Stp (Int × Int) Int) :=
  cond (decide (x1.2 < (v1.length : Int))) ((geti v1 x1.2).bind fun v2 => some (.go ((w64 (x1.1 + v2)), (w64 (x1.2 + 1))))) (some (.out x1.1))
theorem curve_Length_l1_le (v1 : (List Int)) (x1 : (Int × Int)) : Le (curve_Length_l1c v1 x1) (curve_Length_l1 v1 x1) := by
  unfold curve_Length_l1c curve_Length_l1
  repeat' first | with_reducible exact Le.refl _ | with_reducible refine Le.bind ?_ fun _ => ?_ | with_reducible refine Le.cond ?_ ?_ | with_reducible refine Le.ite ?_ ?_ | with_reducible refine Le.thenS ?_ (fun _ => ?_) (fun _ => ?_) | with_reducible refine Le.loop (fun _ => ?_) _ | with_reducible refine Le.loopL (fun _ _ => ?_) _ _ | exact Le.refl _
def curve_Lengthc (p1 : Curve) : Option Int :=
  (curve_Piecesc p1).bind fun v1 => (loopF (curve_Length_l1c v1) (0, 0)).bind fun y1 => some y1
theorem curve_Length_le (p1 : Curve) : Le (curve_Lengthc p1) (curve_Length p1) := by
  unfold curve_Lengthc curve_Length
  repeat' first | with_reducible exact Le.refl _ | with_reducible exact curve_Pieces_le _ | with_reducible exact curve_Length_l1_le _ _ | with_reducible refine Le.bind ?_ fun _ => ?_ | with_reducible refine Le.cond ?_ ?_ | with_reducible refine Le.ite ?_ ?_ | with_reducible refine Le.thenS ?_ (fun _ => ?_) (fun _ => ?_) | with_reducible refine Le.loop (fun _ => ?_) _ | with_reducible refine Le.loopL (fun _ _ => ?_) _ _ | exact Le.refl _
def roads_longc (p1 : Map) (p2 : Int) : Option Int :=
  (geti p1.Lanes p2).bind fun v1 => (curve_Lengthc v1.Curve_).bind fun v2 => some v2
theorem roads_long_le (p1 : Map) (p2 : Int) : Le (roads_longc p1 p2) (roads_long p1 p2) := by
  unfold roads_longc roads_long
  repeat' first | with_reducible exact Le.refl _ | with_reducible exact curve_Length_le _ | with_reducible refine Le.bind ?_ fun _ => ?_ | with_reducible refine Le.cond ?_ ?_ | with_reducible refine Le.ite ?_ ?_ | with_reducible refine Le.thenS ?_ (fun _ => ?_) (fun _ => ?_) | with_reducible refine Le.loop (fun _ => ?_) _ | with_reducible refine Le.loopL (fun _ _ => ?_) _ _ | exact Le.refl _
def roads_check_zones_l3c (p1 : RoadsCheck) (v1 : Zone) (x3 : Int) : Option (Stp Int (Sum Unit Int)) :=
  cond (decide (x3 < (v1.Parts.length : Int))) ((geti v1.Parts x3).bind fun v5 => ((cond (!((decide (v5.From < 0)) || (decide (v5.From ≥ v5.To)))) (roads_longc p1.Map_ v5.Lane_) (some default))).bind fun v6 => cond (((((decide (v5.From < 0)) || (decide (v5.From ≥ v5.To))) || (decide (v5.To > v6))) || (decide (v5.Rank < 0))) || (decide (v5.Rank > 100))) (some (.out (.inr 2))) (some (.go (w64 (x3 + 1))))) (some (.out (.inl ())))
theorem roads_check_zones_l3_le (p1 : RoadsCheck) (v1 : Zone) (x3 : Int) : Le (roads_check_zones_l3c p1 v1 x3) (roads_check_zones_l3 p1 v1 x3) := by
  unfold roads_check_zones_l3c roads_check_zones_l3
  repeat' first | with_reducible exact Le.refl _ | with_reducible exact roads_long_le _ _ | with_reducible refine Le.bind ?_ fun _ => ?_ | with_reducible refine Le.cond ?_ ?_ | with_reducible refine Le.ite ?_ ?_ | with_reducible refine Le.thenS ?_ (fun _ => ?_) (fun _ => ?_) | with_reducible refine Le.loop (fun _ => ?_) _ | with_reducible refine Le.loopL (fun _ _ => ?_) _ _ | exact Le.refl _
def roads_check_zones_l2c (v1 : Zone) (x2 : ((List Int) × Int)) : Option (Stp ((List Int) × Int) (List Int)) :=
  cond (decide (x2.2 < (v1.Parts.length : Int))) ((geti v1.Parts x2.2).bind fun v2 => (appc x2.1 [v2.Lane_]).bind fun v3 => some (.go (v3, (w64 (x2.2 + 1))))) (some (.out x2.1))
theorem roads_check_zones_l2_le (v1 : Zone) (x2 : ((List Int) × Int)) : Le (roads_check_zones_l2c v1 x2) (roads_check_zones_l2 v1 x2) := by
  unfold roads_check_zones_l2c roads_check_zones_l2
  repeat' first | with_reducible exact Le.refl _ | with_reducible refine Le.bind ?_ fun _ => ?_ | with_reducible refine Le.cond ?_ ?_ | with_reducible refine Le.ite ?_ ?_ | with_reducible refine Le.thenS ?_ (fun _ => ?_) (fun _ => ?_) | with_reducible refine Le.loop (fun _ => ?_) _ | with_reducible refine Le.loopL (fun _ _ => ?_) _ _ | exact Le.refl _
def roads_check_zones_l1c (p1 : RoadsCheck) (x1 : Int) : Option (Stp Int (Sum Unit Int)) :=
  cond (decide (x1 < (p1.Map_.Zones.length : Int))) ((geti p1.Map_.Zones x1).bind fun v1 => cond (decide ((v1.Parts.length : Int) < 2)) (some (.out (.inr 6))) (cond (decide ((v1.Parts.length : Int) > 6)) (some (.out (.inr 8))) (cond ((decide (v1.Signal_ < 0)) || (decide (v1.Signal_ > (p1.Map_.Signals.length : Int)))) (some (.out (.inr 2))) ((loopF (roads_check_zones_l2c v1) ([], 0)).bind fun y2 => (roads_risingc y2 0 (p1.Map_.Lanes.length : Int)).bind fun v4 => cond (!v4) (some (.out (.inr 11))) (thenS (loopF (roads_check_zones_l3c p1 v1) 0) (fun _ => some (.go (w64 (x1 + 1)))) (fun r => some (.out (.inr r)))))))) (some (.out (.inl ())))
theorem roads_check_zones_l1_le (p1 : RoadsCheck) (x1 : Int) : Le (roads_check_zones_l1c p1 x1) (roads_check_zones_l1 p1 x1) := by
  unfold roads_check_zones_l1c roads_check_zones_l1
  repeat' first | with_reducible exact Le.refl _ | with_reducible exact roads_check_zones_l2_le _ _ | with_reducible exact roads_rising_le _ _ _ | with_reducible exact roads_check_zones_l3_le _ _ _ | with_reducible refine Le.bind ?_ fun _ => ?_ | with_reducible refine Le.cond ?_ ?_ | with_reducible refine Le.ite ?_ ?_ | with_reducible refine Le.thenS ?_ (fun _ => ?_) (fun _ => ?_) | with_reducible refine Le.loop (fun _ => ?_) _ | with_reducible refine Le.loopL (fun _ _ => ?_) _ _ | exact Le.refl _
def roads_check_zonesc (p1 : RoadsCheck) : Option Int :=
  thenS (loopF (roads_check_zones_l1c p1) 0) (fun _ => some 0) (fun r => some r)
theorem roads_check_zones_le (p1 : RoadsCheck) : Le (roads_check_zonesc p1) (roads_check_zones p1) := by
  unfold roads_check_zonesc roads_check_zones
  repeat' first | with_reducible exact Le.refl _ | with_reducible exact roads_check_zones_l1_le _ _ | with_reducible refine Le.bind ?_ fun _ => ?_ | with_reducible refine Le.cond ?_ ?_ | with_reducible refine Le.ite ?_ ?_ | with_reducible refine Le.thenS ?_ (fun _ => ?_) (fun _ => ?_) | with_reducible refine Le.loop (fun _ => ?_) _ | with_reducible refine Le.loopL (fun _ _ => ?_) _ _ | exact Le.refl _
def roads_check_works_l1c (p1 : RoadsCheck) (x1 : Int) : Option (Stp Int (Sum Unit Int)) :=
  cond (decide (x1 < (p1.Map_.Works.length : Int))) ((geti p1.Map_.Works x1).bind fun v1 => cond ((decide (v1.Lane_ < 0)) || (decide (v1.Lane_ ≥ (p1.Map_.Lanes.length : Int)))) (some (.out (.inr 7))) ((geti p1.Map_.Lanes v1.Lane_).bind fun v2 => (roads_Boundsc v2.Kind).bind fun v3 => ((cond (!((decide (v1.From < 0)) || (decide (v1.From > v1.To)))) (roads_longc p1.Map_ v1.Lane_) (some default))).bind fun v4 => ((cond (!((((((decide (v1.From < 0)) || (decide (v1.From > v1.To))) || (decide (v1.To > v4))) || (decide (v1.Begin < 0))) || (decide (v1.Begin ≥ v1.End))) || (decide (v1.End > 1099511627776)))) (roads_withinc v1.Limit 0 v3.1) (some default))).bind fun v5 => cond (((((((decide (v1.From < 0)) || (decide (v1.From > v1.To))) || (decide (v1.To > v4))) || (decide (v1.Begin < 0))) || (decide (v1.Begin ≥ v1.End))) || (decide (v1.End > 1099511627776))) || (!v5)) (some (.out (.inr 2))) (some (.go (w64 (x1 + 1)))))) (some (.out (.inl ())))
theorem roads_check_works_l1_le (p1 : RoadsCheck) (x1 : Int) : Le (roads_check_works_l1c p1 x1) (roads_check_works_l1 p1 x1) := by
  unfold roads_check_works_l1c roads_check_works_l1
  repeat' first | with_reducible exact Le.refl _ | with_reducible exact roads_Bounds_le _ | with_reducible exact roads_long_le _ _ | with_reducible exact roads_within_le _ _ _ | with_reducible refine Le.bind ?_ fun _ => ?_ | with_reducible refine Le.cond ?_ ?_ | with_reducible refine Le.ite ?_ ?_ | with_reducible refine Le.thenS ?_ (fun _ => ?_) (fun _ => ?_) | with_reducible refine Le.loop (fun _ => ?_) _ | with_reducible refine Le.loopL (fun _ _ => ?_) _ _ | exact Le.refl _
def roads_check_worksc (p1 : RoadsCheck) : Option Int :=
  thenS (loopF (roads_check_works_l1c p1) 0) (fun _ => some 0) (fun r => some r)
theorem roads_check_works_le (p1 : RoadsCheck) : Le (roads_check_worksc p1) (roads_check_works p1) := by
  unfold roads_check_worksc roads_check_works
  repeat' first | with_reducible exact Le.refl _ | with_reducible exact roads_check_works_l1_le _ _ | with_reducible refine Le.bind ?_ fun _ => ?_ | with_reducible refine Le.cond ?_ ?_ | with_reducible refine Le.ite ?_ ?_ | with_reducible refine Le.thenS ?_ (fun _ => ?_) (fun _ => ?_) | with_reducible refine Le.loop (fun _ => ?_) _ | with_reducible refine Le.loopL (fun _ _ => ?_) _ _ | exact Le.refl _
def choose_roads_check_numbersc (v : Nat) (p1 : RoadsCheck) : Option Int :=
  cond (Nat.beq v 43) (roads_check_numbersc p1) (cond (Nat.beq v 44) (roads_check_lanesc p1) (cond (Nat.beq v 45) (roads_check_jointsc p1) (cond (Nat.beq v 46) (roads_check_signalsc p1) (cond (Nat.beq v 47) (roads_check_zonesc p1) (cond (Nat.beq v 48) (roads_check_worksc p1) (none))))))
theorem choose_roads_check_numbers_le (v : Nat) (p1 : RoadsCheck) : Le (choose_roads_check_numbersc v p1) (choose_roads_check_numbers v p1) := by
  unfold choose_roads_check_numbersc choose_roads_check_numbers
  repeat' first | with_reducible exact Le.refl _ | with_reducible exact roads_check_numbers_le _ | with_reducible exact roads_check_lanes_le _ | with_reducible exact roads_check_joints_le _ | with_reducible exact roads_check_signals_le _ | with_reducible exact roads_check_zones_le _ | with_reducible exact roads_check_works_le _ | with_reducible refine Le.bind ?_ fun _ => ?_ | with_reducible refine Le.cond ?_ ?_ | with_reducible refine Le.ite ?_ ?_ | with_reducible refine Le.thenS ?_ (fun _ => ?_) (fun _ => ?_) | with_reducible refine Le.loop (fun _ => ?_) _ | with_reducible refine Le.loopL (fun _ _ => ?_) _ _ | exact Le.refl _
def roads_Check_l1c (p1 : Map) (x1 : Int) : Option (Stp Int (Sum Unit Int)) :=
  cond (decide (x1 < ([43, 44, 45, 46, 47, 48].length : Int))) ((geti [43, 44, 45, 46, 47, 48] x1).bind fun v1 => (choose_roads_check_numbersc v1 (RoadsCheck.mk p1)).bind fun v2 => cond (v2 != 0) (some (.out (.inr v2))) (some (.go (w64 (x1 + 1))))) (some (.out (.inl ())))
theorem roads_Check_l1_le (p1 : Map) (x1 : Int) : Le (roads_Check_l1c p1 x1) (roads_Check_l1 p1 x1) := by
  unfold roads_Check_l1c roads_Check_l1
  repeat' first | with_reducible exact Le.refl _ | with_reducible exact choose_roads_check_numbers_le _ _ | with_reducible refine Le.bind ?_ fun _ => ?_ | with_reducible refine Le.cond ?_ ?_ | with_reducible refine Le.ite ?_ ?_ | with_reducible refine Le.thenS ?_ (fun _ => ?_) (fun _ => ?_) | with_reducible refine Le.loop (fun _ => ?_) _ | with_reducible refine Le.loopL (fun _ _ => ?_) _ _ | exact Le.refl _
def roads_Checkc (p1 : Map) : Option Int :=
  thenS (loopF (roads_Check_l1c p1) 0) (fun _ => some 0) (fun r => some r)
theorem roads_Check_le (p1 : Map) : Le (roads_Checkc p1) (roads_Check p1) := by
  unfold roads_Checkc roads_Check
  repeat' first | with_reducible exact Le.refl _ | with_reducible exact roads_Check_l1_le _ _ | with_reducible refine Le.bind ?_ fun _ => ?_ | with_reducible refine Le.cond ?_ ?_ | with_reducible refine Le.ite ?_ ?_ | with_reducible refine Le.thenS ?_ (fun _ => ?_) (fun _ => ?_) | with_reducible refine Le.loop (fun _ => ?_) _ | with_reducible refine Le.loopL (fun _ _ => ?_) _ _ | exact Le.refl _
def slices_Index_int_int_l1c (p1 : (List Int)) (p2 : Int) (x1 : Int) : Option (Stp Int (Sum Unit Int)) :=
  cond (decide (x1 < (p1.length : Int))) ((geti p1 x1).bind fun v1 => cond (p2 == v1) (some (.out (.inr x1))) (some (.go (w64 (x1 + 1))))) (some (.out (.inl ())))
theorem slices_Index_int_int_l1_le (p1 : (List Int)) (p2 : Int) (x1 : Int) : Le (slices_Index_int_int_l1c p1 p2 x1) (slices_Index_int_int_l1 p1 p2 x1) := by
  unfold slices_Index_int_int_l1c slices_Index_int_int_l1
  repeat' first | with_reducible exact Le.refl _ | with_reducible refine Le.bind ?_ fun _ => ?_ | with_reducible refine Le.cond ?_ ?_ | with_reducible refine Le.ite ?_ ?_ | with_reducible refine Le.thenS ?_ (fun _ => ?_) (fun _ => ?_) | with_reducible refine Le.loop (fun _ => ?_) _ | with_reducible refine Le.loopL (fun _ _ => ?_) _ _ | exact Le.refl _
def slices_Index_int_intc (p1 : (List Int)) (p2 : Int) : Option Int :=
  thenS (loopF (slices_Index_int_int_l1c p1 p2) 0) (fun _ => some (-1)) (fun r => some r)
theorem slices_Index_int_int_le (p1 : (List Int)) (p2 : Int) : Le (slices_Index_int_intc p1 p2) (slices_Index_int_int p1 p2) := by
  unfold slices_Index_int_intc slices_Index_int_int
  repeat' first | with_reducible exact Le.refl _ | with_reducible exact slices_Index_int_int_l1_le _ _ _ | with_reducible refine Le.bind ?_ fun _ => ?_ | with_reducible refine Le.cond ?_ ?_ | with_reducible refine Le.ite ?_ ?_ | with_reducible refine Le.thenS ?_ (fun _ => ?_) (fun _ => ?_) | with_reducible refine Le.loop (fun _ => ?_) _ | with_reducible refine Le.loopL (fun _ _ => ?_) _ _ | exact Le.refl _
def slices_Contains_int_intc (p1 : (List Int)) (p2 : Int) : Option Bool :=
  (slices_Index_int_intc p1 p2).bind fun v1 => some (decide (v1 ≥ 0))
theorem slices_Contains_int_int_le (p1 : (List Int)) (p2 : Int) : Le (slices_Contains_int_intc p1 p2) (slices_Contains_int_int p1 p2) := by
  unfold slices_Contains_int_intc slices_Contains_int_int
  repeat' first | with_reducible exact Le.refl _ | with_reducible exact slices_Index_int_int_le _ _ | with_reducible refine Le.bind ?_ fun _ => ?_ | with_reducible refine Le.cond ?_ ?_ | with_reducible refine Le.ite ?_ ?_ | with_reducible refine Le.thenS ?_ (fun _ => ?_) (fun _ => ?_) | with_reducible refine Le.loop (fun _ => ?_) _ | with_reducible refine Le.loopL (fun _ _ => ?_) _ _ | exact Le.refl _
def roads_before_l1c (p1 : Map) (p2 : Int) (x1 : ((List Int) × Int)) : Option (Stp ((List Int) × Int) (List Int)) :=
  cond (decide (x1.2 < (p1.Lanes.length : Int))) ((geti p1.Lanes x1.2).bind fun v1 => (slices_Contains_int_intc v1.Next p2).bind fun v2 => cond v2 ((appc x1.1 [x1.2]).bind fun v3 => some (.go (v3, (w64 (x1.2 + 1))))) (some (.go (x1.1, (w64 (x1.2 + 1)))))) (some (.out x1.1))
theorem roads_before_l1_le (p1 : Map) (p2 : Int) (x1 : ((List Int) × Int)) : Le (roads_before_l1c p1 p2 x1) (roads_before_l1 p1 p2 x1) := by
  unfold roads_before_l1c roads_before_l1
  repeat' first | with_reducible exact Le.refl _ | with_reducible exact slices_Contains_int_int_le _ _ | with_reducible refine Le.bind ?_ fun _ => ?_ | with_reducible refine Le.cond ?_ ?_ | with_reducible refine Le.ite ?_ ?_ | with_reducible refine Le.thenS ?_ (fun _ => ?_) (fun _ => ?_) | with_reducible refine Le.loop (fun _ => ?_) _ | with_reducible refine Le.loopL (fun _ _ => ?_) _ _ | exact Le.refl _
def roads_beforec (p1 : Map) (p2 : Int) : Option (List Int) :=
  (loopF (roads_before_l1c p1 p2) ([], 0)).bind fun y1 => some y1
theorem roads_before_le (p1 : Map) (p2 : Int) : Le (roads_beforec p1 p2) (roads_before p1 p2) := by
  unfold roads_beforec roads_before
  repeat' first | with_reducible exact Le.refl _ | with_reducible exact roads_before_l1_le _ _ _ | with_reducible refine Le.bind ?_ fun _ => ?_ | with_reducible refine Le.cond ?_ ?_ | with_reducible refine Le.ite ?_ ?_ | with_reducible refine Le.thenS ?_ (fun _ => ?_) (fun _ => ?_) | with_reducible refine Le.loop (fun _ => ?_) _ | with_reducible refine Le.loopL (fun _ _ => ?_) _ _ | exact Le.refl _
def roads_CheckRoute_l1c (p1 : Map) (v7 : List Int) (x1 : (Int × Int)) : Option (Stp (Int × Int) (Sum Unit Int)) :=
  cond (decide (x1.2 < (v7.length : Int))) ((geti v7 x1.2).bind fun v8 => (geti p1.Lanes x1.1).bind fun v9 => (slices_Contains_int_intc v9.Next v8).bind fun v10 => cond (!v10) (some (.out (.inr 13))) (some (.go (v8, (w64 (x1.2 + 1)))))) (some (.out (.inl ())))
theorem roads_CheckRoute_l1_le (p1 : Map) (v7 : List Int) (x1 : (Int × Int)) : Le (roads_CheckRoute_l1c p1 v7 x1) (roads_CheckRoute_l1 p1 v7 x1) := by
  unfold roads_CheckRoute_l1c roads_CheckRoute_l1
  repeat' first | with_reducible exact Le.refl _ | with_reducible exact slices_Contains_int_int_le _ _ | with_reducible refine Le.bind ?_ fun _ => ?_ | with_reducible refine Le.cond ?_ ?_ | with_reducible refine Le.ite ?_ ?_ | with_reducible refine Le.thenS ?_ (fun _ => ?_) (fun _ => ?_) | with_reducible refine Le.loop (fun _ => ?_) _ | with_reducible refine Le.loopL (fun _ _ => ?_) _ _ | exact Le.refl _
def roads_CheckRoutec (p1 : Map) (p2 : (List Int)) : Option Int :=
  (roads_Checkc p1).bind fun v1 => cond (v1 != 0) (some v1) (((cond (!(((p2.length : Int) == 0) || (decide ((p2.length : Int) > 8)))) (geti p2 0) (some default))).bind fun v2 => ((cond (!((((p2.length : Int) == 0) || (decide ((p2.length : Int) > 8))) || (decide (v2 < 0)))) (geti p2 0) (some default))).bind fun v3 => ((cond (!(((((p2.length : Int) == 0) || (decide ((p2.length : Int) > 8))) || (decide (v2 < 0))) || (decide (v3 ≥ (p1.Lanes.length : Int))))) (geti p2 0) (some default))).bind fun v4 => ((cond (!(((((p2.length : Int) == 0) || (decide ((p2.length : Int) > 8))) || (decide (v2 < 0))) || (decide (v3 ≥ (p1.Lanes.length : Int))))) (roads_beforec p1 v4) (some default))).bind fun v5 => cond ((((((p2.length : Int) == 0) || (decide ((p2.length : Int) > 8))) || (decide (v2 < 0))) || (decide (v3 ≥ (p1.Lanes.length : Int)))) || (decide ((v5.length : Int) > 0))) (some 13) ((geti p2 0).bind fun v6 => (subl p2 1 (p2.length : Int)).bind fun v7 => thenS (loopF (roads_CheckRoute_l1c p1 v7) (v6, 0)) (fun _ => some 0) (fun r => some r)))
theorem roads_CheckRoute_le (p1 : Map) (p2 : (List Int)) : Le (roads_CheckRoutec p1 p2) (roads_CheckRoute p1 p2) := by
  unfold roads_CheckRoutec roads_CheckRoute
  repeat' first | with_reducible exact Le.refl _ | with_reducible exact roads_Check_le _ | with_reducible exact roads_before_le _ _ | with_reducible exact roads_CheckRoute_l1_le _ _ _ | with_reducible refine Le.bind ?_ fun _ => ?_ | with_reducible refine Le.cond ?_ ?_ | with_reducible refine Le.ite ?_ ?_ | with_reducible refine Le.thenS ?_ (fun _ => ?_) (fun _ => ?_) | with_reducible refine Le.loop (fun _ => ?_) _ | with_reducible refine Le.loopL (fun _ _ => ?_) _ _ | exact Le.refl _
def roads_follow_l1c (p1 : Map) (p2 : (List Int)) (x1 : (Int × RoadsWay)) : Option (Stp (Int × RoadsWay) RoadsWay) :=
  cond (decide (x1.1 < (p2.length : Int))) ((geti p2 x1.1).bind fun v2 => (appc x1.2.starts [x1.2.length]).bind fun v3 => (roads_longc p1 v2).bind fun v4 => some (.go ((w64 (x1.1 + 1)), (RoadsWay.mk x1.2.Map_ x1.2.lanes v3 (w64 (x1.2.length + v4)))))) (some (.out x1.2))
theorem roads_follow_l1_le (p1 : Map) (p2 : (List Int)) (x1 : (Int × RoadsWay)) : Le (roads_follow_l1c p1 p2 x1) (roads_follow_l1 p1 p2 x1) := by
  unfold roads_follow_l1c roads_follow_l1
  repeat' first | with_reducible exact Le.refl _ | with_reducible exact roads_long_le _ _ | with_reducible refine Le.bind ?_ fun _ => ?_ | with_reducible refine Le.cond ?_ ?_ | with_reducible refine Le.ite ?_ ?_ | with_reducible refine Le.thenS ?_ (fun _ => ?_) (fun _ => ?_) | with_reducible refine Le.loop (fun _ => ?_) _ | with_reducible refine Le.loopL (fun _ _ => ?_) _ _ | exact Le.refl _
def roads_followc (p1 : Map) (p2 : (List Int)) : Option RoadsWay :=
  (roads_CheckRoutec p1 p2).bind fun v1 => cond (v1 != 0) (some (RoadsWay.mk (Map.mk 0 [] [] [] []) [] [] 0)) ((loopF (roads_follow_l1c p1 p2) (0, (RoadsWay.mk p1 p2 [] 0))).bind fun y1 => some y1)
theorem roads_follow_le (p1 : Map) (p2 : (List Int)) : Le (roads_followc p1 p2) (roads_follow p1 p2) := by
  unfold roads_followc roads_follow
  repeat' first | with_reducible exact Le.refl _ | with_reducible exact roads_CheckRoute_le _ _ | with_reducible exact roads_follow_l1_le _ _ _ | with_reducible refine Le.bind ?_ fun _ => ?_ | with_reducible refine Le.cond ?_ ?_ | with_reducible refine Le.ite ?_ ?_ | with_reducible refine Le.thenS ?_ (fun _ => ?_) (fun _ => ?_) | with_reducible refine Le.loop (fun _ => ?_) _ | with_reducible refine Le.loopL (fun _ _ => ?_) _ _ | exact Le.refl _
def roads_Place_l1c (p3 : Int) (v1 : RoadsWay) (x1 : Int) : Option (Stp Int Int) :=
  (geti v1.starts x1).bind fun v3 => cond (decide (v3 > p3)) (some (.go (w64 (x1 - 1)))) (some (.out x1))
theorem roads_Place_l1_le (p3 : Int) (v1 : RoadsWay) (x1 : Int) : Le (roads_Place_l1c p3 v1 x1) (roads_Place_l1 p3 v1 x1) := by
  unfold roads_Place_l1c roads_Place_l1
  repeat' first | with_reducible exact Le.refl _ | with_reducible refine Le.bind ?_ fun _ => ?_ | with_reducible refine Le.cond ?_ ?_ | with_reducible refine Le.ite ?_ ?_ | with_reducible refine Le.thenS ?_ (fun _ => ?_) (fun _ => ?_) | with_reducible refine Le.loop (fun _ => ?_) _ | with_reducible refine Le.loopL (fun _ _ => ?_) _ _ | exact Le.refl _
def roads_Placec (p1 : Map) (p2 : (List Int)) (p3 : Int) : Option (Int × Int × Bool) :=
  (roads_followc p1 p2).bind fun v1 => ((cond (!((v1.lanes.length : Int) == 0)) (roads_withinc p3 0 v1.length) (some default))).bind fun v2 => cond (((v1.lanes.length : Int) == 0) || (!v2)) (some (0, 0, false)) ((loopF (roads_Place_l1c p3 v1) (w64 ((v1.lanes.length : Int) - 1))).bind fun y1 => (geti v1.lanes y1).bind fun v4 => (geti v1.starts y1).bind fun v5 => some (v4, (w64 (p3 - v5)), true))
theorem roads_Place_le (p1 : Map) (p2 : (List Int)) (p3 : Int) : Le (roads_Placec p1 p2 p3) (roads_Place p1 p2 p3) := by
  unfold roads_Placec roads_Place
  repeat' first | with_reducible exact Le.refl _ | with_reducible exact roads_follow_le _ _ | with_reducible exact roads_within_le _ _ _ | with_reducible exact roads_Place_l1_le _ _ _ | with_reducible refine Le.bind ?_ fun _ => ?_ | with_reducible refine Le.cond ?_ ?_ | with_reducible refine Le.ite ?_ ?_ | with_reducible refine Le.thenS ?_ (fun _ => ?_) (fun _ => ?_) | with_reducible refine Le.loop (fun _ => ?_) _ | with_reducible refine Le.loopL (fun _ _ => ?_) _ _ | exact Le.refl _
def roads_part_1_bc (p1 : Part) (p2 : Int) : Option Bool :=
  some (p1.Lane_ == p2)
theorem roads_part_1_b_le (p1 : Part) (p2 : Int) : Le (roads_part_1_bc p1 p2) (roads_part_1_b p1 p2) := by
  unfold roads_part_1_bc roads_part_1_b
  repeat' first | with_reducible exact Le.refl _ | with_reducible refine Le.bind ?_ fun _ => ?_ | with_reducible refine Le.cond ?_ ?_ | with_reducible refine Le.ite ?_ ?_ | with_reducible refine Le.thenS ?_ (fun _ => ?_) (fun _ => ?_) | with_reducible refine Le.loop (fun _ => ?_) _ | with_reducible refine Le.loopL (fun _ _ => ?_) _ _ | exact Le.refl _
def slices_IndexFunc_Part_Part_roads_part_1b_l1c (p1 : (List Part)) (p2 : Int) (x1 : Int) : Option (Stp Int (Sum Unit Int)) :=
  cond (decide (x1 < (p1.length : Int))) ((geti p1 x1).bind fun v1 => (roads_part_1_bc v1 p2).bind fun v2 => cond v2 (some (.out (.inr x1))) (some (.go (w64 (x1 + 1))))) (some (.out (.inl ())))
theorem slices_IndexFunc_Part_Part_roads_part_1b_l1_le (p1 : (List Part)) (p2 : Int) (x1 : Int) : Le (slices_IndexFunc_Part_Part_roads_part_1b_l1c p1 p2 x1) (slices_IndexFunc_Part_Part_roads_part_1b_l1 p1 p2 x1) := by
  unfold slices_IndexFunc_Part_Part_roads_part_1b_l1c slices_IndexFunc_Part_Part_roads_part_1b_l1
  repeat' first | with_reducible exact Le.refl _ | with_reducible exact roads_part_1_b_le _ _ | with_reducible refine Le.bind ?_ fun _ => ?_ | with_reducible refine Le.cond ?_ ?_ | with_reducible refine Le.ite ?_ ?_ | with_reducible refine Le.thenS ?_ (fun _ => ?_) (fun _ => ?_) | with_reducible refine Le.loop (fun _ => ?_) _ | with_reducible refine Le.loopL (fun _ _ => ?_) _ _ | exact Le.refl _
def slices_IndexFunc_Part_Part_roads_part_1bc (p1 : (List Part)) (p2 : Int) : Option Int :=
  thenS (loopF (slices_IndexFunc_Part_Part_roads_part_1b_l1c p1 p2) 0) (fun _ => some (-1)) (fun r => some r)
theorem slices_IndexFunc_Part_Part_roads_part_1b_le (p1 : (List Part)) (p2 : Int) : Le (slices_IndexFunc_Part_Part_roads_part_1bc p1 p2) (slices_IndexFunc_Part_Part_roads_part_1b p1 p2) := by
  unfold slices_IndexFunc_Part_Part_roads_part_1bc slices_IndexFunc_Part_Part_roads_part_1b
  repeat' first | with_reducible exact Le.refl _ | with_reducible exact slices_IndexFunc_Part_Part_roads_part_1b_l1_le _ _ _ | with_reducible refine Le.bind ?_ fun _ => ?_ | with_reducible refine Le.cond ?_ ?_ | with_reducible refine Le.ite ?_ ?_ | with_reducible refine Le.thenS ?_ (fun _ => ?_) (fun _ => ?_) | with_reducible refine Le.loop (fun _ => ?_) _ | with_reducible refine Le.loopL (fun _ _ => ?_) _ _ | exact Le.refl _
def roads_partc (p1 : Zone) (p2 : Int) : Option (Part × Bool) :=
  (slices_IndexFunc_Part_Part_roads_part_1bc p1.Parts p2).bind fun v1 => cond (decide (v1 < 0)) (some ((Part.mk 0 0 0 0), false)) ((geti p1.Parts v1).bind fun v2 => some (v2, true))
theorem roads_part_le (p1 : Zone) (p2 : Int) : Le (roads_partc p1 p2) (roads_part p1 p2) := by
  unfold roads_partc roads_part
  repeat' first | with_reducible exact Le.refl _ | with_reducible exact slices_IndexFunc_Part_Part_roads_part_1b_le _ _ | with_reducible refine Le.bind ?_ fun _ => ?_ | with_reducible refine Le.cond ?_ ?_ | with_reducible refine Le.ite ?_ ?_ | with_reducible refine Le.thenS ?_ (fun _ => ?_) (fun _ => ?_) | with_reducible refine Le.loop (fun _ => ?_) _ | with_reducible refine Le.loopL (fun _ _ => ?_) _ _ | exact Le.refl _
def roads_closed_l1c (p1 : Map) (p2 : Zone) (v2 : (List Int)) (x1 : Int) : Option (Stp Int (Sum Unit Bool)) :=
  cond (decide (x1 < (v2.length : Int))) ((geti v2 x1).bind fun v3 => (roads_partc p2 v3).bind fun v4 => ((cond (!(!v4.2)) (roads_longc p1 v3) (some default))).bind fun v5 => cond ((!v4.2) || (v4.1.To != v5)) (some (.out (.inr false))) (some (.go (w64 (x1 + 1))))) (some (.out (.inl ())))
theorem roads_closed_l1_le (p1 : Map) (p2 : Zone) (v2 : (List Int)) (x1 : Int) : Le (roads_closed_l1c p1 p2 v2 x1) (roads_closed_l1 p1 p2 v2 x1) := by
  unfold roads_closed_l1c roads_closed_l1
  repeat' first | with_reducible exact Le.refl _ | with_reducible exact roads_part_le _ _ | with_reducible exact roads_long_le _ _ | with_reducible refine Le.bind ?_ fun _ => ?_ | with_reducible refine Le.cond ?_ ?_ | with_reducible refine Le.ite ?_ ?_ | with_reducible refine Le.thenS ?_ (fun _ => ?_) (fun _ => ?_) | with_reducible refine Le.loop (fun _ => ?_) _ | with_reducible refine Le.loopL (fun _ _ => ?_) _ _ | exact Le.refl _
def roads_closedc (p1 : Map) (p2 : Zone) (p3 : Int) : Option Bool :=
  (roads_partc p2 p3).bind fun v1 => cond ((!v1.2) || (v1.1.From != 0)) (some false) ((roads_beforec p1 p3).bind fun v2 => thenS (loopF (roads_closed_l1c p1 p2 v2) 0) (fun _ => some true) (fun r => some r))
theorem roads_closed_le (p1 : Map) (p2 : Zone) (p3 : Int) : Le (roads_closedc p1 p2 p3) (roads_closed p1 p2 p3) := by
  unfold roads_closedc roads_closed
  repeat' first | with_reducible exact Le.refl _ | with_reducible exact roads_part_le _ _ | with_reducible exact roads_before_le _ _ | with_reducible exact roads_closed_l1_le _ _ _ _ | with_reducible refine Le.bind ?_ fun _ => ?_ | with_reducible refine Le.cond ?_ ?_ | with_reducible refine Le.ite ?_ ?_ | with_reducible refine Le.thenS ?_ (fun _ => ?_) (fun _ => ?_) | with_reducible refine Le.loop (fun _ => ?_) _ | with_reducible refine Le.loopL (fun _ _ => ?_) _ _ | exact Le.refl _
def roads_reach_l2c (x1 : (Int × (Int × Int × Int × Int × Int × Int × Int × Int × Int × Int × Int × Int))) (v1 : Lane) (x2 : (Int × (Int × Int × Int × Int × Int × Int × Int × Int × Int × Int × Int × Int))) : Option (Stp (Int × (Int × Int × Int × Int × Int × Int × Int × Int × Int × Int × Int × Int)) (Int × Int × Int × Int × Int × Int × Int × Int × Int × Int × Int × Int)) :=
  cond (decide (x2.1 < (v1.Next.length : Int))) ((geti v1.Next x2.1).bind fun v2 => (geti ([x2.2.1, x2.2.2.1, x2.2.2.2.1, x2.2.2.2.2.1, x2.2.2.2.2.2.1, x2.2.2.2.2.2.2.1, x2.2.2.2.2.2.2.2.1, x2.2.2.2.2.2.2.2.2.1, x2.2.2.2.2.2.2.2.2.2.1, x2.2.2.2.2.2.2.2.2.2.2.1, x2.2.2.2.2.2.2.2.2.2.2.2.1, x2.2.2.2.2.2.2.2.2.2.2.2.2] : List Int) x1.1).bind fun v3 => (geti ([x2.2.1, x2.2.2.1, x2.2.2.2.1, x2.2.2.2.2.1, x2.2.2.2.2.2.1, x2.2.2.2.2.2.2.1, x2.2.2.2.2.2.2.2.1, x2.2.2.2.2.2.2.2.2.1, x2.2.2.2.2.2.2.2.2.2.1, x2.2.2.2.2.2.2.2.2.2.2.1, x2.2.2.2.2.2.2.2.2.2.2.2.1, x2.2.2.2.2.2.2.2.2.2.2.2.2] : List Int) v2).bind fun v4 => (shlc .u32 1 (IntKind.wrap .u64 v2)).bind fun v5 => (geti ([x2.2.1, x2.2.2.1, x2.2.2.2.1, x2.2.2.2.2.1, x2.2.2.2.2.2.1, x2.2.2.2.2.2.2.1, x2.2.2.2.2.2.2.2.1, x2.2.2.2.2.2.2.2.2.1, x2.2.2.2.2.2.2.2.2.2.1, x2.2.2.2.2.2.2.2.2.2.2.1, x2.2.2.2.2.2.2.2.2.2.2.2.1, x2.2.2.2.2.2.2.2.2.2.2.2.2] : List Int) x1.1).bind fun v6 => (setc ([x2.2.1, x2.2.2.1, x2.2.2.2.1, x2.2.2.2.2.1, x2.2.2.2.2.2.1, x2.2.2.2.2.2.2.1, x2.2.2.2.2.2.2.2.1, x2.2.2.2.2.2.2.2.2.1, x2.2.2.2.2.2.2.2.2.2.1, x2.2.2.2.2.2.2.2.2.2.2.1, x2.2.2.2.2.2.2.2.2.2.2.2.1, x2.2.2.2.2.2.2.2.2.2.2.2.2] : List Int) x1.1 (IntKind.wrap .u32 (((BitVec.ofInt (IntKind.bits .u32) v3 |||(BitVec.ofInt (IntKind.bits .u32) (IntKind.wrap .u32 (((BitVec.ofInt (IntKind.bits .u32) v4 |||(BitVec.ofInt (IntKind.bits .u32) v5)).toNat : Nat))))).toNat : Nat)))).bind fun v7 => some (.go ((w64 (x2.1 + 1)), ((v7.getD 0 0), (v7.getD 1 0), (v7.getD 2 0), (v7.getD 3 0), (v7.getD 4 0), (v7.getD 5 0), (v7.getD 6 0), (v7.getD 7 0), (v7.getD 8 0), (v7.getD 9 0), (v7.getD 10 0), (v7.getD 11 0))))) (some (.out x2.2))
theorem roads_reach_l2_le (x1 : (Int × (Int × Int × Int × Int × Int × Int × Int × Int × Int × Int × Int × Int))) (v1 : Lane) (x2 : (Int × (Int × Int × Int × Int × Int × Int × Int × Int × Int × Int × Int × Int))) : Le (roads_reach_l2c x1 v1 x2) (roads_reach_l2 x1 v1 x2) := by
  unfold roads_reach_l2c roads_reach_l2
  repeat' first | with_reducible exact Le.refl _ | with_reducible refine Le.bind ?_ fun _ => ?_ | with_reducible refine Le.cond ?_ ?_ | with_reducible refine Le.ite ?_ ?_ | with_reducible refine Le.thenS ?_ (fun _ => ?_) (fun _ => ?_) | with_reducible refine Le.loop (fun _ => ?_) _ | with_reducible refine Le.loopL (fun _ _ => ?_) _ _ | exact Le.refl _
def roads_reach_l1c (p1 : Map) (x1 : (Int × (Int × Int × Int × Int × Int × Int × Int × Int × Int × Int × Int × Int))) : Option (Stp (Int × (Int × Int × Int × Int × Int × Int × Int × Int × Int × Int × Int × Int)) (Int × Int × Int × Int × Int × Int × Int × Int × Int × Int × Int × Int)) :=
  cond (decide (x1.1 ≥ 0)) ((geti p1.Lanes x1.1).bind fun v1 => (loopF (roads_reach_l2c x1 v1) (0, x1.2)).bind fun y2 => some (.go ((w64 (x1.1 - 1)), y2))) (some (.out x1.2))
theorem roads_reach_l1_le (p1 : Map) (x1 : (Int × (Int × Int × Int × Int × Int × Int × Int × Int × Int × Int × Int × Int))) : Le (roads_reach_l1c p1 x1) (roads_reach_l1 p1 x1) := by
  unfold roads_reach_l1c roads_reach_l1
  repeat' first | with_reducible exact Le.refl _ | with_reducible exact roads_reach_l2_le _ _ _ | with_reducible refine Le.bind ?_ fun _ => ?_ | with_reducible refine Le.cond ?_ ?_ | with_reducible refine Le.ite ?_ ?_ | with_reducible refine Le.thenS ?_ (fun _ => ?_) (fun _ => ?_) | with_reducible refine Le.loop (fun _ => ?_) _ | with_reducible refine Le.loopL (fun _ _ => ?_) _ _ | exact Le.refl _
def roads_reachc (p1 : Map) : Option (Int × Int × Int × Int × Int × Int × Int × Int × Int × Int × Int × Int) :=
  (loopF (roads_reach_l1c p1) ((w64 ((p1.Lanes.length : Int) - 1)), (0, 0, 0, 0, 0, 0, 0, 0, 0, 0, 0, 0))).bind fun y1 => some y1
theorem roads_reach_le (p1 : Map) : Le (roads_reachc p1) (roads_reach p1) := by
  unfold roads_reachc roads_reach
  repeat' first | with_reducible exact Le.refl _ | with_reducible exact roads_reach_l1_le _ _ | with_reducible refine Le.bind ?_ fun _ => ?_ | with_reducible refine Le.cond ?_ ?_ | with_reducible refine Le.ite ?_ ?_ | with_reducible refine Le.thenS ?_ (fun _ => ?_) (fun _ => ?_) | with_reducible refine Le.loop (fun _ => ?_) _ | with_reducible refine Le.loopL (fun _ _ => ?_) _ _ | exact Le.refl _
def roads_set_hasc (p1 : Int) (p2 : Int) : Option Bool :=
  (shrc .u32 p1 (IntKind.wrap .u64 p2)).bind fun v1 => some ((IntKind.wrap .u32 (((BitVec.ofInt (IntKind.bits .u32) v1 &&&(BitVec.ofInt (IntKind.bits .u32) 1)).toNat : Nat))) == 1)
theorem roads_set_has_le (p1 : Int) (p2 : Int) : Le (roads_set_hasc p1 p2) (roads_set_has p1 p2) := by
  unfold roads_set_hasc roads_set_has
  repeat' first | with_reducible exact Le.refl _ | with_reducible refine Le.bind ?_ fun _ => ?_ | with_reducible refine Le.cond ?_ ?_ | with_reducible refine Le.ite ?_ ?_ | with_reducible refine Le.thenS ?_ (fun _ => ?_) (fun _ => ?_) | with_reducible refine Le.loop (fun _ => ?_) _ | with_reducible refine Le.loopL (fun _ _ => ?_) _ _ | exact Le.refl _
def roads_entry_1_o_oc (p1 : Part) (p2 : (Int × Int × Int × Int × Int × Int × Int × Int × Int × Int × Int × Int)) (p3 : Int) : Option Bool :=
  (geti ([p2.1, p2.2.1, p2.2.2.1, p2.2.2.2.1, p2.2.2.2.2.1, p2.2.2.2.2.2.1, p2.2.2.2.2.2.2.1, p2.2.2.2.2.2.2.2.1, p2.2.2.2.2.2.2.2.2.1, p2.2.2.2.2.2.2.2.2.2.1, p2.2.2.2.2.2.2.2.2.2.2.1, p2.2.2.2.2.2.2.2.2.2.2.2] : List Int) p1.Lane_).bind fun v1 => (roads_set_hasc v1 p3).bind fun v2 => some v2
theorem roads_entry_1_o_o_le (p1 : Part) (p2 : (Int × Int × Int × Int × Int × Int × Int × Int × Int × Int × Int × Int)) (p3 : Int) : Le (roads_entry_1_o_oc p1 p2 p3) (roads_entry_1_o_o p1 p2 p3) := by
  unfold roads_entry_1_o_oc roads_entry_1_o_o
  repeat' first | with_reducible exact Le.refl _ | with_reducible exact roads_set_has_le _ _ | with_reducible refine Le.bind ?_ fun _ => ?_ | with_reducible refine Le.cond ?_ ?_ | with_reducible refine Le.ite ?_ ?_ | with_reducible refine Le.thenS ?_ (fun _ => ?_) (fun _ => ?_) | with_reducible refine Le.loop (fun _ => ?_) _ | with_reducible refine Le.loopL (fun _ _ => ?_) _ _ | exact Le.refl _
def slices_IndexFunc_Part_Part_roads_entry_1oo_l1c (p1 : (List Part)) (p2 : (Int × Int × Int × Int × Int × Int × Int × Int × Int × Int × Int × Int)) (p3 : Int) (x1 : Int) : Option (Stp Int (Sum Unit Int)) :=
  cond (decide (x1 < (p1.length : Int))) ((geti p1 x1).bind fun v1 => (roads_entry_1_o_oc v1 p2 p3).bind fun v2 => cond v2 (some (.out (.inr x1))) (some (.go (w64 (x1 + 1))))) (some (.out (.inl ())))
theorem slices_IndexFunc_Part_Part_roads_entry_1oo_l1_le (p1 : (List Part)) (p2 : (Int × Int × Int × Int × Int × Int × Int × Int × Int × Int × Int × Int)) (p3 : Int) (x1 : Int) : Le (slices_IndexFunc_Part_Part_roads_entry_1oo_l1c p1 p2 p3 x1) (slices_IndexFunc_Part_Part_roads_entry_1oo_l1 p1 p2 p3 x1) := by
  unfold slices_IndexFunc_Part_Part_roads_entry_1oo_l1c slices_IndexFunc_Part_Part_roads_entry_1oo_l1
  repeat' first | with_reducible exact Le.refl _ | with_reducible exact roads_entry_1_o_o_le _ _ _ | with_reducible refine Le.bind ?_ fun _ => ?_ | with_reducible refine Le.cond ?_ ?_ | with_reducible refine Le.ite ?_ ?_ | with_reducible refine Le.thenS ?_ (fun _ => ?_) (fun _ => ?_) | with_reducible refine Le.loop (fun _ => ?_) _ | with_reducible refine Le.loopL (fun _ _ => ?_) _ _ | exact Le.refl _
def slices_IndexFunc_Part_Part_roads_entry_1ooc (p1 : (List Part)) (p2 : (Int × Int × Int × Int × Int × Int × Int × Int × Int × Int × Int × Int)) (p3 : Int) : Option Int :=
  thenS (loopF (slices_IndexFunc_Part_Part_roads_entry_1oo_l1c p1 p2 p3) 0) (fun _ => some (-1)) (fun r => some r)
theorem slices_IndexFunc_Part_Part_roads_entry_1oo_le (p1 : (List Part)) (p2 : (Int × Int × Int × Int × Int × Int × Int × Int × Int × Int × Int × Int)) (p3 : Int) : Le (slices_IndexFunc_Part_Part_roads_entry_1ooc p1 p2 p3) (slices_IndexFunc_Part_Part_roads_entry_1oo p1 p2 p3) := by
  unfold slices_IndexFunc_Part_Part_roads_entry_1ooc slices_IndexFunc_Part_Part_roads_entry_1oo
  repeat' first | with_reducible exact Le.refl _ | with_reducible exact slices_IndexFunc_Part_Part_roads_entry_1oo_l1_le _ _ _ _ | with_reducible refine Le.bind ?_ fun _ => ?_ | with_reducible refine Le.cond ?_ ?_ | with_reducible refine Le.ite ?_ ?_ | with_reducible refine Le.thenS ?_ (fun _ => ?_) (fun _ => ?_) | with_reducible refine Le.loop (fun _ => ?_) _ | with_reducible refine Le.loopL (fun _ _ => ?_) _ _ | exact Le.refl _
def slices_ContainsFunc_Part_Part_roads_entry_1ooc (p1 : (List Part)) (p2 : (Int × Int × Int × Int × Int × Int × Int × Int × Int × Int × Int × Int)) (p3 : Int) : Option Bool :=
  (slices_IndexFunc_Part_Part_roads_entry_1ooc p1 p2 p3).bind fun v1 => some (decide (v1 ≥ 0))
theorem slices_ContainsFunc_Part_Part_roads_entry_1oo_le (p1 : (List Part)) (p2 : (Int × Int × Int × Int × Int × Int × Int × Int × Int × Int × Int × Int)) (p3 : Int) : Le (slices_ContainsFunc_Part_Part_roads_entry_1ooc p1 p2 p3) (slices_ContainsFunc_Part_Part_roads_entry_1oo p1 p2 p3) := by
  unfold slices_ContainsFunc_Part_Part_roads_entry_1ooc slices_ContainsFunc_Part_Part_roads_entry_1oo
  repeat' first | with_reducible exact Le.refl _ | with_reducible exact slices_IndexFunc_Part_Part_roads_entry_1oo_le _ _ _ | with_reducible refine Le.bind ?_ fun _ => ?_ | with_reducible refine Le.cond ?_ ?_ | with_reducible refine Le.ite ?_ ?_ | with_reducible refine Le.thenS ?_ (fun _ => ?_) (fun _ => ?_) | with_reducible refine Le.loop (fun _ => ?_) _ | with_reducible refine Le.loopL (fun _ _ => ?_) _ _ | exact Le.refl _
def roads_entryc (p1 : Map) (p2 : Zone) (p3 : Int) : Option Bool :=
  (roads_reachc p1).bind fun v1 => (slices_ContainsFunc_Part_Part_roads_entry_1ooc p2.Parts v1 p3).bind fun v2 => some (!v2)
theorem roads_entry_le (p1 : Map) (p2 : Zone) (p3 : Int) : Le (roads_entryc p1 p2 p3) (roads_entry p1 p2 p3) := by
  unfold roads_entryc roads_entry
  repeat' first | with_reducible exact Le.refl _ | with_reducible exact roads_reach_le _ | with_reducible exact slices_ContainsFunc_Part_Part_roads_entry_1oo_le _ _ _ | with_reducible refine Le.bind ?_ fun _ => ?_ | with_reducible refine Le.cond ?_ ?_ | with_reducible refine Le.ite ?_ ?_ | with_reducible refine Le.thenS ?_ (fun _ => ?_) (fun _ => ?_) | with_reducible refine Le.loop (fun _ => ?_) _ | with_reducible refine Le.loopL (fun _ _ => ?_) _ _ | exact Le.refl _
def roads_merges_1_1_b_bc (p1 : Int) (p2 : Map) (p3 : Zone) : Option Bool :=
  (roads_entryc p2 p3 p1).bind fun v1 => some (!v1)
theorem roads_merges_1_1_b_b_le (p1 : Int) (p2 : Map) (p3 : Zone) : Le (roads_merges_1_1_b_bc p1 p2 p3) (roads_merges_1_1_b_b p1 p2 p3) := by
  unfold roads_merges_1_1_b_bc roads_merges_1_1_b_b
  repeat' first | with_reducible exact Le.refl _ | with_reducible exact roads_entry_le _ _ _ | with_reducible refine Le.bind ?_ fun _ => ?_ | with_reducible refine Le.cond ?_ ?_ | with_reducible refine Le.ite ?_ ?_ | with_reducible refine Le.thenS ?_ (fun _ => ?_) (fun _ => ?_) | with_reducible refine Le.loop (fun _ => ?_) _ | with_reducible refine Le.loopL (fun _ _ => ?_) _ _ | exact Le.refl _
def slices_IndexFunc_int_int_roads_merges_1_1bb_l1c (p1 : (List Int)) (p2 : Map) (p3 : Zone) (x1 : Int) : Option (Stp Int (Sum Unit Int)) :=
  cond (decide (x1 < (p1.length : Int))) ((geti p1 x1).bind fun v1 => (roads_merges_1_1_b_bc v1 p2 p3).bind fun v2 => cond v2 (some (.out (.inr x1))) (some (.go (w64 (x1 + 1))))) (some (.out (.inl ())))
theorem slices_IndexFunc_int_int_roads_merges_1_1bb_l1_le (p1 : (List Int)) (p2 : Map) (p3 : Zone) (x1 : Int) : Le (slices_IndexFunc_int_int_roads_merges_1_1bb_l1c p1 p2 p3 x1) (slices_IndexFunc_int_int_roads_merges_1_1bb_l1 p1 p2 p3 x1) := by
  unfold slices_IndexFunc_int_int_roads_merges_1_1bb_l1c slices_IndexFunc_int_int_roads_merges_1_1bb_l1
  repeat' first | with_reducible exact Le.refl _ | with_reducible exact roads_merges_1_1_b_b_le _ _ _ | with_reducible refine Le.bind ?_ fun _ => ?_ | with_reducible refine Le.cond ?_ ?_ | with_reducible refine Le.ite ?_ ?_ | with_reducible refine Le.thenS ?_ (fun _ => ?_) (fun _ => ?_) | with_reducible refine Le.loop (fun _ => ?_) _ | with_reducible refine Le.loopL (fun _ _ => ?_) _ _ | exact Le.refl _
def slices_IndexFunc_int_int_roads_merges_1_1bbc (p1 : (List Int)) (p2 : Map) (p3 : Zone) : Option Int :=
  thenS (loopF (slices_IndexFunc_int_int_roads_merges_1_1bb_l1c p1 p2 p3) 0) (fun _ => some (-1)) (fun r => some r)
theorem slices_IndexFunc_int_int_roads_merges_1_1bb_le (p1 : (List Int)) (p2 : Map) (p3 : Zone) : Le (slices_IndexFunc_int_int_roads_merges_1_1bbc p1 p2 p3) (slices_IndexFunc_int_int_roads_merges_1_1bb p1 p2 p3) := by
  unfold slices_IndexFunc_int_int_roads_merges_1_1bbc slices_IndexFunc_int_int_roads_merges_1_1bb
  repeat' first | with_reducible exact Le.refl _ | with_reducible exact slices_IndexFunc_int_int_roads_merges_1_1bb_l1_le _ _ _ _ | with_reducible refine Le.bind ?_ fun _ => ?_ | with_reducible refine Le.cond ?_ ?_ | with_reducible refine Le.ite ?_ ?_ | with_reducible refine Le.thenS ?_ (fun _ => ?_) (fun _ => ?_) | with_reducible refine Le.loop (fun _ => ?_) _ | with_reducible refine Le.loopL (fun _ _ => ?_) _ _ | exact Le.refl _
def slices_ContainsFunc_int_int_roads_merges_1_1bbc (p1 : (List Int)) (p2 : Map) (p3 : Zone) : Option Bool :=
  (slices_IndexFunc_int_int_roads_merges_1_1bbc p1 p2 p3).bind fun v1 => some (decide (v1 ≥ 0))
theorem slices_ContainsFunc_int_int_roads_merges_1_1bb_le (p1 : (List Int)) (p2 : Map) (p3 : Zone) : Le (slices_ContainsFunc_int_int_roads_merges_1_1bbc p1 p2 p3) (slices_ContainsFunc_int_int_roads_merges_1_1bb p1 p2 p3) := by
  unfold slices_ContainsFunc_int_int_roads_merges_1_1bbc slices_ContainsFunc_int_int_roads_merges_1_1bb
  repeat' first | with_reducible exact Le.refl _ | with_reducible exact slices_IndexFunc_int_int_roads_merges_1_1bb_le _ _ _ | with_reducible refine Le.bind ?_ fun _ => ?_ | with_reducible refine Le.cond ?_ ?_ | with_reducible refine Le.ite ?_ ?_ | with_reducible refine Le.thenS ?_ (fun _ => ?_) (fun _ => ?_) | with_reducible refine Le.loop (fun _ => ?_) _ | with_reducible refine Le.loopL (fun _ _ => ?_) _ _ | exact Le.refl _
def roads_merges_1_b_b_bc (p1 : Zone) (p2 : Map) (p3 : Int) (p4 : (List Int)) : Option Bool :=
  (roads_closedc p2 p1 p3).bind fun v1 => ((cond v1 (slices_ContainsFunc_int_int_roads_merges_1_1bbc p4 p2 p1) (some default))).bind fun v2 => some (v1 && (!v2))
theorem roads_merges_1_b_b_b_le (p1 : Zone) (p2 : Map) (p3 : Int) (p4 : (List Int)) : Le (roads_merges_1_b_b_bc p1 p2 p3 p4) (roads_merges_1_b_b_b p1 p2 p3 p4) := by
  unfold roads_merges_1_b_b_bc roads_merges_1_b_b_b
  repeat' first | with_reducible exact Le.refl _ | with_reducible exact roads_closed_le _ _ _ | with_reducible exact slices_ContainsFunc_int_int_roads_merges_1_1bb_le _ _ _ | with_reducible refine Le.bind ?_ fun _ => ?_ | with_reducible refine Le.cond ?_ ?_ | with_reducible refine Le.ite ?_ ?_ | with_reducible refine Le.thenS ?_ (fun _ => ?_) (fun _ => ?_) | with_reducible refine Le.loop (fun _ => ?_) _ | with_reducible refine Le.loopL (fun _ _ => ?_) _ _ | exact Le.refl _
def slices_IndexFunc_Zone_Zone_roads_merges_1bbb_l1c (p1 : (List Zone)) (p2 : Map) (p3 : Int) (p4 : (List Int)) (x1 : Int) : Option (Stp Int (Sum Unit Int)) :=
  cond (decide (x1 < (p1.length : Int))) ((geti p1 x1).bind fun v1 => (roads_merges_1_b_b_bc v1 p2 p3 p4).bind fun v2 => cond v2 (some (.out (.inr x1))) (some (.go (w64 (x1 + 1))))) (some (.out (.inl ())))
theorem slices_IndexFunc_Zone_Zone_roads_merges_1bbb_l1_le (p1 : (List Zone)) (p2 : Map) (p3 : Int) (p4 : (List Int)) (x1 : Int) : Le (slices_IndexFunc_Zone_Zone_roads_merges_1bbb_l1c p1 p2 p3 p4 x1) (slices_IndexFunc_Zone_Zone_roads_merges_1bbb_l1 p1 p2 p3 p4 x1) := by
  unfold slices_IndexFunc_Zone_Zone_roads_merges_1bbb_l1c slices_IndexFunc_Zone_Zone_roads_merges_1bbb_l1
  repeat' first | with_reducible exact Le.refl _ | with_reducible exact roads_merges_1_b_b_b_le _ _ _ _ | with_reducible refine Le.bind ?_ fun _ => ?_ | with_reducible refine Le.cond ?_ ?_ | with_reducible refine Le.ite ?_ ?_ | with_reducible refine Le.thenS ?_ (fun _ => ?_) (fun _ => ?_) | with_reducible refine Le.loop (fun _ => ?_) _ | with_reducible refine Le.loopL (fun _ _ => ?_) _ _ | exact Le.refl _
def slices_IndexFunc_Zone_Zone_roads_merges_1bbbc (p1 : (List Zone)) (p2 : Map) (p3 : Int) (p4 : (List Int)) : Option Int :=
  thenS (loopF (slices_IndexFunc_Zone_Zone_roads_merges_1bbb_l1c p1 p2 p3 p4) 0) (fun _ => some (-1)) (fun r => some r)
theorem slices_IndexFunc_Zone_Zone_roads_merges_1bbb_le (p1 : (List Zone)) (p2 : Map) (p3 : Int) (p4 : (List Int)) : Le (slices_IndexFunc_Zone_Zone_roads_merges_1bbbc p1 p2 p3 p4) (slices_IndexFunc_Zone_Zone_roads_merges_1bbb p1 p2 p3 p4) := by
  unfold slices_IndexFunc_Zone_Zone_roads_merges_1bbbc slices_IndexFunc_Zone_Zone_roads_merges_1bbb
  repeat' first | with_reducible exact Le.refl _ | with_reducible exact slices_IndexFunc_Zone_Zone_roads_merges_1bbb_l1_le _ _ _ _ _ | with_reducible refine Le.bind ?_ fun _ => ?_ | with_reducible refine Le.cond ?_ ?_ | with_reducible refine Le.ite ?_ ?_ | with_reducible refine Le.thenS ?_ (fun _ => ?_) (fun _ => ?_) | with_reducible refine Le.loop (fun _ => ?_) _ | with_reducible refine Le.loopL (fun _ _ => ?_) _ _ | exact Le.refl _
def slices_ContainsFunc_Zone_Zone_roads_merges_1bbbc (p1 : (List Zone)) (p2 : Map) (p3 : Int) (p4 : (List Int)) : Option Bool :=
  (slices_IndexFunc_Zone_Zone_roads_merges_1bbbc p1 p2 p3 p4).bind fun v1 => some (decide (v1 ≥ 0))
theorem slices_ContainsFunc_Zone_Zone_roads_merges_1bbb_le (p1 : (List Zone)) (p2 : Map) (p3 : Int) (p4 : (List Int)) : Le (slices_ContainsFunc_Zone_Zone_roads_merges_1bbbc p1 p2 p3 p4) (slices_ContainsFunc_Zone_Zone_roads_merges_1bbb p1 p2 p3 p4) := by
  unfold slices_ContainsFunc_Zone_Zone_roads_merges_1bbbc slices_ContainsFunc_Zone_Zone_roads_merges_1bbb
  repeat' first | with_reducible exact Le.refl _ | with_reducible exact slices_IndexFunc_Zone_Zone_roads_merges_1bbb_le _ _ _ _ | with_reducible refine Le.bind ?_ fun _ => ?_ | with_reducible refine Le.cond ?_ ?_ | with_reducible refine Le.ite ?_ ?_ | with_reducible refine Le.thenS ?_ (fun _ => ?_) (fun _ => ?_) | with_reducible refine Le.loop (fun _ => ?_) _ | with_reducible refine Le.loopL (fun _ _ => ?_) _ _ | exact Le.refl _
def roads_merges_l1c (p1 : Map) (x1 : ((List Clash) × Int)) : Option (Stp ((List Clash) × Int) (List Clash)) :=
  cond (decide (x1.2 < (p1.Lanes.length : Int))) ((roads_beforec p1 x1.2).bind fun v1 => (slices_ContainsFunc_Zone_Zone_roads_merges_1bbbc p1.Zones p1 x1.2 v1).bind fun v2 => cond ((decide ((v1.length : Int) > 1)) && (!v2)) ((appc x1.1 [(Clash.mk 1 (-1) x1.2 (-1))]).bind fun v3 => some (.go (v3, (w64 (x1.2 + 1))))) (some (.go (x1.1, (w64 (x1.2 + 1)))))) (some (.out x1.1))
theorem roads_merges_l1_le (p1 : Map) (x1 : ((List Clash) × Int)) : Le (roads_merges_l1c p1 x1) (roads_merges_l1 p1 x1) := by
  unfold roads_merges_l1c roads_merges_l1
  repeat' first | with_reducible exact Le.refl _ | with_reducible exact roads_before_le _ _ | with_reducible exact slices_ContainsFunc_Zone_Zone_roads_merges_1bbb_le _ _ _ _ | with_reducible refine Le.bind ?_ fun _ => ?_ | with_reducible refine Le.cond ?_ ?_ | with_reducible refine Le.ite ?_ ?_ | with_reducible refine Le.thenS ?_ (fun _ => ?_) (fun _ => ?_) | with_reducible refine Le.loop (fun _ => ?_) _ | with_reducible refine Le.loopL (fun _ _ => ?_) _ _ | exact Le.refl _
def roads_mergesc (p1 : Map) : Option (List Clash) :=
  (loopF (roads_merges_l1c p1) ([], 0)).bind fun y1 => some y1
theorem roads_merges_le (p1 : Map) : Le (roads_mergesc p1) (roads_merges p1) := by
  unfold roads_mergesc roads_merges
  repeat' first | with_reducible exact Le.refl _ | with_reducible exact roads_merges_l1_le _ _ | with_reducible refine Le.bind ?_ fun _ => ?_ | with_reducible refine Le.cond ?_ ?_ | with_reducible refine Le.ite ?_ ?_ | with_reducible refine Le.thenS ?_ (fun _ => ?_) (fun _ => ?_) | with_reducible refine Le.loop (fun _ => ?_) _ | with_reducible refine Le.loopL (fun _ _ => ?_) _ _ | exact Le.refl _
def roads_chains_l2c (p1 : Map) (x1 : ((List Clash) × Int)) (v1 : Zone) (x2 : ((List Clash) × Int)) : Option (Stp ((List Clash) × Int) (List Clash)) :=
  cond (decide (x2.2 < (v1.Parts.length : Int))) ((geti v1.Parts x2.2).bind fun v2 => (roads_entryc p1 v1 v2.Lane_).bind fun v3 => ((cond (!v3) (roads_closedc p1 v1 v2.Lane_) (some default))).bind fun v4 => cond ((!v3) && (!v4)) ((appc x2.1 [(Clash.mk 2 x1.2 v2.Lane_ (-1))]).bind fun v5 => some (.go (v5, (w64 (x2.2 + 1))))) (some (.go (x2.1, (w64 (x2.2 + 1)))))) (some (.out x2.1))
theorem roads_chains_l2_le (p1 : Map) (x1 : ((List Clash) × Int)) (v1 : Zone) (x2 : ((List Clash) × Int)) : Le (roads_chains_l2c p1 x1 v1 x2) (roads_chains_l2 p1 x1 v1 x2) := by
  unfold roads_chains_l2c roads_chains_l2
  repeat' first | with_reducible exact Le.refl _ | with_reducible exact roads_entry_le _ _ _ | with_reducible exact roads_closed_le _ _ _ | with_reducible refine Le.bind ?_ fun _ => ?_ | with_reducible refine Le.cond ?_ ?_ | with_reducible refine Le.ite ?_ ?_ | with_reducible refine Le.thenS ?_ (fun _ => ?_) (fun _ => ?_) | with_reducible refine Le.loop (fun _ => ?_) _ | with_reducible refine Le.loopL (fun _ _ => ?_) _ _ | exact Le.refl _
def roads_chains_l1c (p1 : Map) (x1 : ((List Clash) × Int)) : Option (Stp ((List Clash) × Int) (List Clash)) :=
  cond (decide (x1.2 < (p1.Zones.length : Int))) ((geti p1.Zones x1.2).bind fun v1 => (loopF (roads_chains_l2c p1 x1 v1) (x1.1, 0)).bind fun y2 => some (.go (y2, (w64 (x1.2 + 1))))) (some (.out x1.1))
theorem roads_chains_l1_le (p1 : Map) (x1 : ((List Clash) × Int)) : Le (roads_chains_l1c p1 x1) (roads_chains_l1 p1 x1) := by
  unfold roads_chains_l1c roads_chains_l1
  repeat' first | with_reducible exact Le.refl _ | with_reducible exact roads_chains_l2_le _ _ _ _ | with_reducible refine Le.bind ?_ fun _ => ?_ | with_reducible refine Le.cond ?_ ?_ | with_reducible refine Le.ite ?_ ?_ | with_reducible refine Le.thenS ?_ (fun _ => ?_) (fun _ => ?_) | with_reducible refine Le.loop (fun _ => ?_) _ | with_reducible refine Le.loopL (fun _ _ => ?_) _ _ | exact Le.refl _
def roads_chainsc (p1 : Map) : Option (List Clash) :=
  (loopF (roads_chains_l1c p1) ([], 0)).bind fun y1 => some y1
theorem roads_chains_le (p1 : Map) : Le (roads_chainsc p1) (roads_chains p1) := by
  unfold roads_chainsc roads_chains
  repeat' first | with_reducible exact Le.refl _ | with_reducible exact roads_chains_l1_le _ _ | with_reducible refine Le.bind ?_ fun _ => ?_ | with_reducible refine Le.cond ?_ ?_ | with_reducible refine Le.ite ?_ ?_ | with_reducible refine Le.thenS ?_ (fun _ => ?_) (fun _ => ?_) | with_reducible refine Le.loop (fun _ => ?_) _ | with_reducible refine Le.loopL (fun _ _ => ?_) _ _ | exact Le.refl _
def roads_entries_l1c (p1 : Map) (p2 : Zone) (x1 : ((List Int) × Int)) : Option (Stp ((List Int) × Int) (List Int)) :=
  cond (decide (x1.2 < (p2.Parts.length : Int))) ((geti p2.Parts x1.2).bind fun v1 => (roads_entryc p1 p2 v1.Lane_).bind fun v2 => cond v2 ((appc x1.1 [v1.Lane_]).bind fun v3 => some (.go (v3, (w64 (x1.2 + 1))))) (some (.go (x1.1, (w64 (x1.2 + 1)))))) (some (.out x1.1))
theorem roads_entries_l1_le (p1 : Map) (p2 : Zone) (x1 : ((List Int) × Int)) : Le (roads_entries_l1c p1 p2 x1) (roads_entries_l1 p1 p2 x1) := by
  unfold roads_entries_l1c roads_entries_l1
  repeat' first | with_reducible exact Le.refl _ | with_reducible exact roads_entry_le _ _ _ | with_reducible refine Le.bind ?_ fun _ => ?_ | with_reducible refine Le.cond ?_ ?_ | with_reducible refine Le.ite ?_ ?_ | with_reducible refine Le.thenS ?_ (fun _ => ?_) (fun _ => ?_) | with_reducible refine Le.loop (fun _ => ?_) _ | with_reducible refine Le.loopL (fun _ _ => ?_) _ _ | exact Le.refl _
def roads_entriesc (p1 : Map) (p2 : Zone) : Option (List Int) :=
  (loopF (roads_entries_l1c p1 p2) ([], 0)).bind fun y1 => some y1
theorem roads_entries_le (p1 : Map) (p2 : Zone) : Le (roads_entriesc p1 p2) (roads_entries p1 p2) := by
  unfold roads_entriesc roads_entries
  repeat' first | with_reducible exact Le.refl _ | with_reducible exact roads_entries_l1_le _ _ _ | with_reducible refine Le.bind ?_ fun _ => ?_ | with_reducible refine Le.cond ?_ ?_ | with_reducible refine Le.ite ?_ ?_ | with_reducible refine Le.thenS ?_ (fun _ => ?_) (fun _ => ?_) | with_reducible refine Le.loop (fun _ => ?_) _ | with_reducible refine Le.loopL (fun _ _ => ?_) _ _ | exact Le.refl _
def roads_ranks_1c (p1 : Zone) (p2 : Int) (p3 : Int) : Option Bool :=
  (roads_partc p1 p2).bind fun v1 => (roads_partc p1 p3).bind fun v2 => some ((p1.Signal_ == 0) && (v1.1.Rank == v2.1.Rank))
theorem roads_ranks_1_le (p1 : Zone) (p2 : Int) (p3 : Int) : Le (roads_ranks_1c p1 p2 p3) (roads_ranks_1 p1 p2 p3) := by
  unfold roads_ranks_1c roads_ranks_1
  repeat' first | with_reducible exact Le.refl _ | with_reducible exact roads_part_le _ _ | with_reducible refine Le.bind ?_ fun _ => ?_ | with_reducible refine Le.cond ?_ ?_ | with_reducible refine Le.ite ?_ ?_ | with_reducible refine Le.thenS ?_ (fun _ => ?_) (fun _ => ?_) | with_reducible refine Le.loop (fun _ => ?_) _ | with_reducible refine Le.loopL (fun _ _ => ?_) _ _ | exact Le.refl _
def roads_pairs_roads_ranks_1_l3c (p2 : Int) (x1 : ((List Clash) × Int)) (v1 : Zone) (v3 : Int) (v4 : List Int) (x3 : ((List Clash) × Int)) : Option (Stp ((List Clash) × Int) (List Clash)) :=
  cond (decide (x3.2 < (v4.length : Int))) ((geti v4 x3.2).bind fun v5 => (roads_ranks_1c v1 v3 v5).bind fun v6 => cond v6 ((appc x3.1 [(Clash.mk p2 x1.2 v3 v5)]).bind fun v7 => some (.go (v7, (w64 (x3.2 + 1))))) (some (.go (x3.1, (w64 (x3.2 + 1)))))) (some (.out x3.1))
theorem roads_pairs_roads_ranks_1_l3_le (p2 : Int) (x1 : ((List Clash) × Int)) (v1 : Zone) (v3 : Int) (v4 : List Int) (x3 : ((List Clash) × Int)) : Le (roads_pairs_roads_ranks_1_l3c p2 x1 v1 v3 v4 x3) (roads_pairs_roads_ranks_1_l3 p2 x1 v1 v3 v4 x3) := by
  unfold roads_pairs_roads_ranks_1_l3c roads_pairs_roads_ranks_1_l3
  repeat' first | with_reducible exact Le.refl _ | with_reducible exact roads_ranks_1_le _ _ _ | with_reducible refine Le.bind ?_ fun _ => ?_ | with_reducible refine Le.cond ?_ ?_ | with_reducible refine Le.ite ?_ ?_ | with_reducible refine Le.thenS ?_ (fun _ => ?_) (fun _ => ?_) | with_reducible refine Le.loop (fun _ => ?_) _ | with_reducible refine Le.loopL (fun _ _ => ?_) _ _ | exact Le.refl _
def roads_pairs_roads_ranks_1_l2c (p2 : Int) (x1 : ((List Clash) × Int)) (v1 : Zone) (v2 : (List Int)) (x2 : ((List Clash) × Int)) : Option (Stp ((List Clash) × Int) (List Clash)) :=
  cond (decide (x2.2 < (v2.length : Int))) ((geti v2 x2.2).bind fun v3 => (subl v2 (w64 (x2.2 + 1)) (v2.length : Int)).bind fun v4 => (loopF (roads_pairs_roads_ranks_1_l3c p2 x1 v1 v3 v4) (x2.1, 0)).bind fun y3 => some (.go (y3, (w64 (x2.2 + 1))))) (some (.out x2.1))
theorem roads_pairs_roads_ranks_1_l2_le (p2 : Int) (x1 : ((List Clash) × Int)) (v1 : Zone) (v2 : (List Int)) (x2 : ((List Clash) × Int)) : Le (roads_pairs_roads_ranks_1_l2c p2 x1 v1 v2 x2) (roads_pairs_roads_ranks_1_l2 p2 x1 v1 v2 x2) := by
  unfold roads_pairs_roads_ranks_1_l2c roads_pairs_roads_ranks_1_l2
  repeat' first | with_reducible exact Le.refl _ | with_reducible exact roads_pairs_roads_ranks_1_l3_le _ _ _ _ _ _ | with_reducible refine Le.bind ?_ fun _ => ?_ | with_reducible refine Le.cond ?_ ?_ | with_reducible refine Le.ite ?_ ?_ | with_reducible refine Le.thenS ?_ (fun _ => ?_) (fun _ => ?_) | with_reducible refine Le.loop (fun _ => ?_) _ | with_reducible refine Le.loopL (fun _ _ => ?_) _ _ | exact Le.refl _
def roads_pairs_roads_ranks_1_l1c (p1 : Map) (p2 : Int) (x1 : ((List Clash) × Int)) : Option (Stp ((List Clash) × Int) (List Clash)) :=
  cond (decide (x1.2 < (p1.Zones.length : Int))) ((geti p1.Zones x1.2).bind fun v1 => (roads_entriesc p1 v1).bind fun v2 => (loopF (roads_pairs_roads_ranks_1_l2c p2 x1 v1 v2) (x1.1, 0)).bind fun y2 => some (.go (y2, (w64 (x1.2 + 1))))) (some (.out x1.1))
theorem roads_pairs_roads_ranks_1_l1_le (p1 : Map) (p2 : Int) (x1 : ((List Clash) × Int)) : Le (roads_pairs_roads_ranks_1_l1c p1 p2 x1) (roads_pairs_roads_ranks_1_l1 p1 p2 x1) := by
  unfold roads_pairs_roads_ranks_1_l1c roads_pairs_roads_ranks_1_l1
  repeat' first | with_reducible exact Le.refl _ | with_reducible exact roads_entries_le _ _ | with_reducible exact roads_pairs_roads_ranks_1_l2_le _ _ _ _ _ | with_reducible refine Le.bind ?_ fun _ => ?_ | with_reducible refine Le.cond ?_ ?_ | with_reducible refine Le.ite ?_ ?_ | with_reducible refine Le.thenS ?_ (fun _ => ?_) (fun _ => ?_) | with_reducible refine Le.loop (fun _ => ?_) _ | with_reducible refine Le.loopL (fun _ _ => ?_) _ _ | exact Le.refl _
def roads_pairs_roads_ranks_1c (p1 : Map) (p2 : Int) : Option (List Clash) :=
  (loopF (roads_pairs_roads_ranks_1_l1c p1 p2) ([], 0)).bind fun y1 => some y1
theorem roads_pairs_roads_ranks_1_le (p1 : Map) (p2 : Int) : Le (roads_pairs_roads_ranks_1c p1 p2) (roads_pairs_roads_ranks_1 p1 p2) := by
  unfold roads_pairs_roads_ranks_1c roads_pairs_roads_ranks_1
  repeat' first | with_reducible exact Le.refl _ | with_reducible exact roads_pairs_roads_ranks_1_l1_le _ _ _ | with_reducible refine Le.bind ?_ fun _ => ?_ | with_reducible refine Le.cond ?_ ?_ | with_reducible refine Le.ite ?_ ?_ | with_reducible refine Le.thenS ?_ (fun _ => ?_) (fun _ => ?_) | with_reducible refine Le.loop (fun _ => ?_) _ | with_reducible refine Le.loopL (fun _ _ => ?_) _ _ | exact Le.refl _
def roads_ranksc (p1 : Map) : Option (List Clash) :=
  (roads_pairs_roads_ranks_1c p1 3).bind fun v1 => some v1
theorem roads_ranks_le (p1 : Map) : Le (roads_ranksc p1) (roads_ranks p1) := by
  unfold roads_ranksc roads_ranks
  repeat' first | with_reducible exact Le.refl _ | with_reducible exact roads_pairs_roads_ranks_1_le _ _ | with_reducible refine Le.bind ?_ fun _ => ?_ | with_reducible refine Le.cond ?_ ?_ | with_reducible refine Le.ite ?_ ?_ | with_reducible refine Le.thenS ?_ (fun _ => ?_) (fun _ => ?_) | with_reducible refine Le.loop (fun _ => ?_) _ | with_reducible refine Le.loopL (fun _ _ => ?_) _ _ | exact Le.refl _
def roads_greens_1_1_b_bc (p1 : Phase) (p2 : Int) (p3 : Int) : Option Bool :=
  (slices_Contains_int_intc p1.Green p2).bind fun v1 => ((cond v1 (slices_Contains_int_intc p1.Green p3) (some default))).bind fun v2 => some (v1 && v2)
theorem roads_greens_1_1_b_b_le (p1 : Phase) (p2 : Int) (p3 : Int) : Le (roads_greens_1_1_b_bc p1 p2 p3) (roads_greens_1_1_b_b p1 p2 p3) := by
  unfold roads_greens_1_1_b_bc roads_greens_1_1_b_b
  repeat' first | with_reducible exact Le.refl _ | with_reducible exact slices_Contains_int_int_le _ _ | with_reducible refine Le.bind ?_ fun _ => ?_ | with_reducible refine Le.cond ?_ ?_ | with_reducible refine Le.ite ?_ ?_ | with_reducible refine Le.thenS ?_ (fun _ => ?_) (fun _ => ?_) | with_reducible refine Le.loop (fun _ => ?_) _ | with_reducible refine Le.loopL (fun _ _ => ?_) _ _ | exact Le.refl _
def slices_IndexFunc_Phase_Phase_roads_greens_1_1bb_l1c (p1 : (List Phase)) (p2 : Int) (p3 : Int) (x1 : Int) : Option (Stp Int (Sum Unit Int)) :=
  cond (decide (x1 < (p1.length : Int))) ((geti p1 x1).bind fun v1 => (roads_greens_1_1_b_bc v1 p2 p3).bind fun v2 => cond v2 (some (.out (.inr x1))) (some (.go (w64 (x1 + 1))))) (some (.out (.inl ())))
theorem slices_IndexFunc_Phase_Phase_roads_greens_1_1bb_l1_le (p1 : (List Phase)) (p2 : Int) (p3 : Int) (x1 : Int) : Le (slices_IndexFunc_Phase_Phase_roads_greens_1_1bb_l1c p1 p2 p3 x1) (slices_IndexFunc_Phase_Phase_roads_greens_1_1bb_l1 p1 p2 p3 x1) := by
  unfold slices_IndexFunc_Phase_Phase_roads_greens_1_1bb_l1c slices_IndexFunc_Phase_Phase_roads_greens_1_1bb_l1
  repeat' first | with_reducible exact Le.refl _ | with_reducible exact roads_greens_1_1_b_b_le _ _ _ | with_reducible refine Le.bind ?_ fun _ => ?_ | with_reducible refine Le.cond ?_ ?_ | with_reducible refine Le.ite ?_ ?_ | with_reducible refine Le.thenS ?_ (fun _ => ?_) (fun _ => ?_) | with_reducible refine Le.loop (fun _ => ?_) _ | with_reducible refine Le.loopL (fun _ _ => ?_) _ _ | exact Le.refl _
def slices_IndexFunc_Phase_Phase_roads_greens_1_1bbc (p1 : (List Phase)) (p2 : Int) (p3 : Int) : Option Int :=
  thenS (loopF (slices_IndexFunc_Phase_Phase_roads_greens_1_1bb_l1c p1 p2 p3) 0) (fun _ => some (-1)) (fun r => some r)
theorem slices_IndexFunc_Phase_Phase_roads_greens_1_1bb_le (p1 : (List Phase)) (p2 : Int) (p3 : Int) : Le (slices_IndexFunc_Phase_Phase_roads_greens_1_1bbc p1 p2 p3) (slices_IndexFunc_Phase_Phase_roads_greens_1_1bb p1 p2 p3) := by
  unfold slices_IndexFunc_Phase_Phase_roads_greens_1_1bbc slices_IndexFunc_Phase_Phase_roads_greens_1_1bb
  repeat' first | with_reducible exact Le.refl _ | with_reducible exact slices_IndexFunc_Phase_Phase_roads_greens_1_1bb_l1_le _ _ _ _ | with_reducible refine Le.bind ?_ fun _ => ?_ | with_reducible refine Le.cond ?_ ?_ | with_reducible refine Le.ite ?_ ?_ | with_reducible refine Le.thenS ?_ (fun _ => ?_) (fun _ => ?_) | with_reducible refine Le.loop (fun _ => ?_) _ | with_reducible refine Le.loopL (fun _ _ => ?_) _ _ | exact Le.refl _
def slices_ContainsFunc_Phase_Phase_roads_greens_1_1bbc (p1 : (List Phase)) (p2 : Int) (p3 : Int) : Option Bool :=
  (slices_IndexFunc_Phase_Phase_roads_greens_1_1bbc p1 p2 p3).bind fun v1 => some (decide (v1 ≥ 0))
theorem slices_ContainsFunc_Phase_Phase_roads_greens_1_1bb_le (p1 : (List Phase)) (p2 : Int) (p3 : Int) : Le (slices_ContainsFunc_Phase_Phase_roads_greens_1_1bbc p1 p2 p3) (slices_ContainsFunc_Phase_Phase_roads_greens_1_1bb p1 p2 p3) := by
  unfold slices_ContainsFunc_Phase_Phase_roads_greens_1_1bbc slices_ContainsFunc_Phase_Phase_roads_greens_1_1bb
  repeat' first | with_reducible exact Le.refl _ | with_reducible exact slices_IndexFunc_Phase_Phase_roads_greens_1_1bb_le _ _ _ | with_reducible refine Le.bind ?_ fun _ => ?_ | with_reducible refine Le.cond ?_ ?_ | with_reducible refine Le.ite ?_ ?_ | with_reducible refine Le.thenS ?_ (fun _ => ?_) (fun _ => ?_) | with_reducible refine Le.loop (fun _ => ?_) _ | with_reducible refine Le.loopL (fun _ _ => ?_) _ _ | exact Le.refl _
def roads_greens_1_bc (p1 : Zone) (p2 : Int) (p3 : Int) (p4 : Map) : Option Bool :=
  ((cond (decide (p1.Signal_ > 0)) (geti p4.Signals (w64 (p1.Signal_ - 1))) (some default))).bind fun v1 => ((cond (decide (p1.Signal_ > 0)) (slices_ContainsFunc_Phase_Phase_roads_greens_1_1bbc v1.Phases p2 p3) (some default))).bind fun v2 => some ((decide (p1.Signal_ > 0)) && v2)
theorem roads_greens_1_b_le (p1 : Zone) (p2 : Int) (p3 : Int) (p4 : Map) : Le (roads_greens_1_bc p1 p2 p3 p4) (roads_greens_1_b p1 p2 p3 p4) := by
  unfold roads_greens_1_bc roads_greens_1_b
  repeat' first | with_reducible exact Le.refl _ | with_reducible exact slices_ContainsFunc_Phase_Phase_roads_greens_1_1bb_le _ _ _ | with_reducible refine Le.bind ?_ fun _ => ?_ | with_reducible refine Le.cond ?_ ?_ | with_reducible refine Le.ite ?_ ?_ | with_reducible refine Le.thenS ?_ (fun _ => ?_) (fun _ => ?_) | with_reducible refine Le.loop (fun _ => ?_) _ | with_reducible refine Le.loopL (fun _ _ => ?_) _ _ | exact Le.refl _
def roads_pairs_roads_greens_1o_l3c (p2 : Int) (p3 : Map) (x1 : ((List Clash) × Int)) (v1 : Zone) (v3 : Int) (v4 : List Int) (x3 : ((List Clash) × Int)) : Option (Stp ((List Clash) × Int) (List Clash)) :=
  cond (decide (x3.2 < (v4.length : Int))) ((geti v4 x3.2).bind fun v5 => (roads_greens_1_bc v1 v3 v5 p3).bind fun v6 => cond v6 ((appc x3.1 [(Clash.mk p2 x1.2 v3 v5)]).bind fun v7 => some (.go (v7, (w64 (x3.2 + 1))))) (some (.go (x3.1, (w64 (x3.2 + 1)))))) (some (.out x3.1))
theorem roads_pairs_roads_greens_1o_l3_le (p2 : Int) (p3 : Map) (x1 : ((List Clash) × Int)) (v1 : Zone) (v3 : Int) (v4 : List Int) (x3 : ((List Clash) × Int)) : Le (roads_pairs_roads_greens_1o_l3c p2 p3 x1 v1 v3 v4 x3) (roads_pairs_roads_greens_1o_l3 p2 p3 x1 v1 v3 v4 x3) := by
  unfold roads_pairs_roads_greens_1o_l3c roads_pairs_roads_greens_1o_l3
  repeat' first | with_reducible exact Le.refl _ | with_reducible exact roads_greens_1_b_le _ _ _ _ | with_reducible refine Le.bind ?_ fun _ => ?_ | with_reducible refine Le.cond ?_ ?_ | with_reducible refine Le.ite ?_ ?_ | with_reducible refine Le.thenS ?_ (fun _ => ?_) (fun _ => ?_) | with_reducible refine Le.loop (fun _ => ?_) _ | with_reducible refine Le.loopL (fun _ _ => ?_) _ _ | exact Le.refl _
def roads_pairs_roads_greens_1o_l2c (p2 : Int) (p3 : Map) (x1 : ((List Clash) × Int)) (v1 : Zone) (v2 : (List Int)) (x2 : ((List Clash) × Int)) : Option (Stp ((List Clash) × Int) (List Clash)) :=
  cond (decide (x2.2 < (v2.length : Int))) ((geti v2 x2.2).bind fun v3 => (subl v2 (w64 (x2.2 + 1)) (v2.length : Int)).bind fun v4 => (loopF (roads_pairs_roads_greens_1o_l3c p2 p3 x1 v1 v3 v4) (x2.1, 0)).bind fun y3 => some (.go (y3, (w64 (x2.2 + 1))))) (some (.out x2.1))
theorem roads_pairs_roads_greens_1o_l2_le (p2 : Int) (p3 : Map) (x1 : ((List Clash) × Int)) (v1 : Zone) (v2 : (List Int)) (x2 : ((List Clash) × Int)) : Le (roads_pairs_roads_greens_1o_l2c p2 p3 x1 v1 v2 x2) (roads_pairs_roads_greens_1o_l2 p2 p3 x1 v1 v2 x2) := by
  unfold roads_pairs_roads_greens_1o_l2c roads_pairs_roads_greens_1o_l2
  repeat' first | with_reducible exact Le.refl _ | with_reducible exact roads_pairs_roads_greens_1o_l3_le _ _ _ _ _ _ _ | with_reducible refine Le.bind ?_ fun _ => ?_ | with_reducible refine Le.cond ?_ ?_ | with_reducible refine Le.ite ?_ ?_ | with_reducible refine Le.thenS ?_ (fun _ => ?_) (fun _ => ?_) | with_reducible refine Le.loop (fun _ => ?_) _ | with_reducible refine Le.loopL (fun _ _ => ?_) _ _ | exact Le.refl _
def roads_pairs_roads_greens_1o_l1c (p1 : Map) (p2 : Int) (p3 : Map) (x1 : ((List Clash) × Int)) : Option (Stp ((List Clash) × Int) (List Clash)) :=
  cond (decide (x1.2 < (p1.Zones.length : Int))) ((geti p1.Zones x1.2).bind fun v1 => (roads_entriesc p1 v1).bind fun v2 => (loopF (roads_pairs_roads_greens_1o_l2c p2 p3 x1 v1 v2) (x1.1, 0)).bind fun y2 => some (.go (y2, (w64 (x1.2 + 1))))) (some (.out x1.1))
theorem roads_pairs_roads_greens_1o_l1_le (p1 : Map) (p2 : Int) (p3 : Map) (x1 : ((List Clash) × Int)) : Le (roads_pairs_roads_greens_1o_l1c p1 p2 p3 x1) (roads_pairs_roads_greens_1o_l1 p1 p2 p3 x1) := by
  unfold roads_pairs_roads_greens_1o_l1c roads_pairs_roads_greens_1o_l1
  repeat' first | with_reducible exact Le.refl _ | with_reducible exact roads_entries_le _ _ | with_reducible exact roads_pairs_roads_greens_1o_l2_le _ _ _ _ _ _ | with_reducible refine Le.bind ?_ fun _ => ?_ | with_reducible refine Le.cond ?_ ?_ | with_reducible refine Le.ite ?_ ?_ | with_reducible refine Le.thenS ?_ (fun _ => ?_) (fun _ => ?_) | with_reducible refine Le.loop (fun _ => ?_) _ | with_reducible refine Le.loopL (fun _ _ => ?_) _ _ | exact Le.refl _
def roads_pairs_roads_greens_1oc (p1 : Map) (p2 : Int) (p3 : Map) : Option (List Clash) :=
  (loopF (roads_pairs_roads_greens_1o_l1c p1 p2 p3) ([], 0)).bind fun y1 => some y1
theorem roads_pairs_roads_greens_1o_le (p1 : Map) (p2 : Int) (p3 : Map) : Le (roads_pairs_roads_greens_1oc p1 p2 p3) (roads_pairs_roads_greens_1o p1 p2 p3) := by
  unfold roads_pairs_roads_greens_1oc roads_pairs_roads_greens_1o
  repeat' first | with_reducible exact Le.refl _ | with_reducible exact roads_pairs_roads_greens_1o_l1_le _ _ _ _ | with_reducible refine Le.bind ?_ fun _ => ?_ | with_reducible refine Le.cond ?_ ?_ | with_reducible refine Le.ite ?_ ?_ | with_reducible refine Le.thenS ?_ (fun _ => ?_) (fun _ => ?_) | with_reducible refine Le.loop (fun _ => ?_) _ | with_reducible refine Le.loopL (fun _ _ => ?_) _ _ | exact Le.refl _
def roads_greensc (p1 : Map) : Option (List Clash) :=
  (roads_pairs_roads_greens_1oc p1 4 p1).bind fun v1 => some v1
theorem roads_greens_le (p1 : Map) : Le (roads_greensc p1) (roads_greens p1) := by
  unfold roads_greensc roads_greens
  repeat' first | with_reducible exact Le.refl _ | with_reducible exact roads_pairs_roads_greens_1o_le _ _ _ | with_reducible refine Le.bind ?_ fun _ => ?_ | with_reducible refine Le.cond ?_ ?_ | with_reducible refine Le.ite ?_ ?_ | with_reducible refine Le.thenS ?_ (fun _ => ?_) (fun _ => ?_) | with_reducible refine Le.loop (fun _ => ?_) _ | with_reducible refine Le.loopL (fun _ _ => ?_) _ _ | exact Le.refl _
def roads_Fitc (p1 : Map) : Option Bool :=
  (roads_Checkc p1).bind fun v1 => ((cond (v1 == 0) (roads_mergesc p1) (some default))).bind fun v2 => ((cond (v1 == 0) (roads_chainsc p1) (some default))).bind fun v3 => ((cond (v1 == 0) (roads_ranksc p1) (some default))).bind fun v4 => ((cond (v1 == 0) (roads_greensc p1) (some default))).bind fun v5 => some ((v1 == 0) && ((w64 ((w64 ((w64 ((v2.length : Int) + (v3.length : Int))) + (v4.length : Int))) + (v5.length : Int))) == 0))
theorem roads_Fit_le (p1 : Map) : Le (roads_Fitc p1) (roads_Fit p1) := by
  unfold roads_Fitc roads_Fit
  repeat' first | with_reducible exact Le.refl _ | with_reducible exact roads_Check_le _ | with_reducible exact roads_merges_le _ | with_reducible exact roads_chains_le _ | with_reducible exact roads_ranks_le _ | with_reducible exact roads_greens_le _ | with_reducible refine Le.bind ?_ fun _ => ?_ | with_reducible refine Le.cond ?_ ?_ | with_reducible refine Le.ite ?_ ?_ | with_reducible refine Le.thenS ?_ (fun _ => ?_) (fun _ => ?_) | with_reducible refine Le.loop (fun _ => ?_) _ | with_reducible refine Le.loopL (fun _ _ => ?_) _ _ | exact Le.refl _
def roads_isc (p1 : Map) (p2 : Int) : Option Bool :=
  ((cond ((decide (p2 ≥ 0)) && (decide (p2 < (p1.Lanes.length : Int)))) (roads_Checkc p1) (some default))).bind fun v1 => some (((decide (p2 ≥ 0)) && (decide (p2 < (p1.Lanes.length : Int)))) && (v1 == 0))
theorem roads_is_le (p1 : Map) (p2 : Int) : Le (roads_isc p1 p2) (roads_is p1 p2) := by
  unfold roads_isc roads_is
  repeat' first | with_reducible exact Le.refl _ | with_reducible exact roads_Check_le _ | with_reducible refine Le.bind ?_ fun _ => ?_ | with_reducible refine Le.cond ?_ ?_ | with_reducible refine Le.ite ?_ ?_ | with_reducible refine Le.thenS ?_ (fun _ => ?_) (fun _ => ?_) | with_reducible refine Le.loop (fun _ => ?_) _ | with_reducible refine Le.loopL (fun _ _ => ?_) _ _ | exact Le.refl _
def roads_Lengthc (p1 : Map) (p2 : Int) : Option Int :=
  (roads_isc p1 p2).bind fun v1 => cond (!v1) (some 0) ((roads_longc p1 p2).bind fun v2 => some v2)
theorem roads_Length_le (p1 : Map) (p2 : Int) : Le (roads_Lengthc p1 p2) (roads_Length p1 p2) := by
  unfold roads_Lengthc roads_Length
  repeat' first | with_reducible exact Le.refl _ | with_reducible exact roads_is_le _ _ | with_reducible exact roads_long_le _ _ | with_reducible refine Le.bind ?_ fun _ => ?_ | with_reducible refine Le.cond ?_ ?_ | with_reducible refine Le.ite ?_ ?_ | with_reducible refine Le.thenS ?_ (fun _ => ?_) (fun _ => ?_) | with_reducible refine Le.loop (fun _ => ?_) _ | with_reducible refine Le.loopL (fun _ _ => ?_) _ _ | exact Le.refl _
def roads_Limit_l1c (p1 : Map) (p2 : Int) (p3 : Int) (p4 : Int) (x1 : (Int × Int)) : Option (Stp (Int × Int) Int) :=
  cond (decide (x1.2 < (p1.Works.length : Int))) ((geti p1.Works x1.2).bind fun v5 => ((cond (v5.Lane_ == p2) (roads_withinc p3 v5.From v5.To) (some default))).bind fun v6 => ((cond ((v5.Lane_ == p2) && v6) (roads_withinc p4 v5.Begin (w64 (v5.End - 1))) (some default))).bind fun v7 => cond (((v5.Lane_ == p2) && v6) && v7) (some (.go ((mm2 false x1.1 v5.Limit), (w64 (x1.2 + 1))))) (some (.go (x1.1, (w64 (x1.2 + 1)))))) (some (.out x1.1))
theorem roads_Limit_l1_le (p1 : Map) (p2 : Int) (p3 : Int) (p4 : Int) (x1 : (Int × Int)) : Le (roads_Limit_l1c p1 p2 p3 p4 x1) (roads_Limit_l1 p1 p2 p3 p4 x1) := by
  unfold roads_Limit_l1c roads_Limit_l1
  repeat' first | with_reducible exact Le.refl _ | with_reducible exact roads_within_le _ _ _ | with_reducible refine Le.bind ?_ fun _ => ?_ | with_reducible refine Le.cond ?_ ?_ | with_reducible refine Le.ite ?_ ?_ | with_reducible refine Le.thenS ?_ (fun _ => ?_) (fun _ => ?_) | with_reducible refine Le.loop (fun _ => ?_) _ | with_reducible refine Le.loopL (fun _ _ => ?_) _ _ | exact Le.refl _
def roads_Limitc (p1 : Map) (p2 : Int) (p3 : Int) (p4 : Int) : Option Int :=
  (roads_isc p1 p2).bind fun v1 => ((cond (!(!v1)) (roads_longc p1 p2) (some default))).bind fun v2 => ((cond (!(!v1)) (roads_withinc p3 0 v2) (some default))).bind fun v3 => cond ((!v1) || (!v3)) (some 0) ((geti p1.Lanes p2).bind fun v4 => (loopF (roads_Limit_l1c p1 p2 p3 p4) (v4.Limit, 0)).bind fun y1 => some y1)
theorem roads_Limit_le (p1 : Map) (p2 : Int) (p3 : Int) (p4 : Int) : Le (roads_Limitc p1 p2 p3 p4) (roads_Limit p1 p2 p3 p4) := by
  unfold roads_Limitc roads_Limit
  repeat' first | with_reducible exact Le.refl _ | with_reducible exact roads_is_le _ _ | with_reducible exact roads_long_le _ _ | with_reducible exact roads_within_le _ _ _ | with_reducible exact roads_Limit_l1_le _ _ _ _ _ | with_reducible refine Le.bind ?_ fun _ => ?_ | with_reducible refine Le.cond ?_ ?_ | with_reducible refine Le.ite ?_ ?_ | with_reducible refine Le.thenS ?_ (fun _ => ?_) (fun _ => ?_) | with_reducible refine Le.loop (fun _ => ?_) _ | with_reducible refine Le.loopL (fun _ _ => ?_) _ _ | exact Le.refl _
def law03_awakec : Option Bool :=
  (kit_Crossc).bind fun v1 => (roads_Placec v1 [0] 60000).bind fun v2 => (roads_Checkc v1).bind fun v3 => ((cond (v3 == 0) (roads_Fitc v1) (some default))).bind fun v4 => ((cond (((((v3 == 0) && v4) && (v2.1 == 0)) && (v2.2.1 == 60000)) && v2.2.2) (roads_Lengthc v1 1) (some default))).bind fun v5 => ((cond ((((((v3 == 0) && v4) && (v2.1 == 0)) && (v2.2.1 == 60000)) && v2.2.2) && (v5 == 100000)) (roads_Limitc v1 0 10 5) (some default))).bind fun v6 => some (((((((v3 == 0) && v4) && (v2.1 == 0)) && (v2.2.1 == 60000)) && v2.2.2) && (v5 == 100000)) && (v6 == 1500))
theorem law03_awake_le : Le (law03_awakec) (law03_awake) := by
  unfold law03_awakec law03_awake
  repeat' first | with_reducible exact Le.refl _ | with_reducible exact kit_Cross_le | with_reducible exact roads_Place_le _ _ _ | with_reducible exact roads_Check_le _ | with_reducible exact roads_Fit_le _ | with_reducible exact roads_Length_le _ _ | with_reducible exact roads_Limit_le _ _ _ _ | with_reducible refine Le.bind ?_ fun _ => ?_ | with_reducible refine Le.cond ?_ ?_ | with_reducible refine Le.ite ?_ ?_ | with_reducible refine Le.thenS ?_ (fun _ => ?_) (fun _ => ?_) | with_reducible refine Le.loop (fun _ => ?_) _ | with_reducible refine Le.loopL (fun _ _ => ?_) _ _ | exact Le.refl _
end Go.Abs.Roads

namespace Go.Abs.Roads
open Go Go.Abs

theorem curve_root_spec (n : Int) : ∃ y, curve_root n = some (y, y * y == n) ∧ 0 ≤ y ∧ y ≤ 67108864 ∧ (∀ m, 0 ≤ m → m < y → m * m < n) ∧ (y = 67108864 ∨ n ≤ y * y) := by
  have key := loop_inv (f := curve_root_l1 n) (fun x => 0 ≤ x.1 ∧ x.1 ≤ x.2 ∧ x.2 ≤ 67108864 ∧ (∀ m, 0 ≤ m → m < x.1 → m * m < n) ∧ (x.2 = 67108864 ∨ n ≤ x.2 * x.2)) (fun x => (x.2 - x.1).toNat)
    (fun y => 0 ≤ y ∧ y ≤ 67108864 ∧ (∀ m, 0 ≤ m → m < y → m * m < n) ∧ (y = 67108864 ∨ n ≤ y * y)) (by
      rintro ⟨lo, hi⟩ ⟨h1, h2, h3, h4, h5⟩
      dsimp only at h1 h2 h3 h4 h5
      unfold curve_root_l1
      dsimp only
      by_cases hlt : lo < hi
      · have e1 : w64 (lo + hi) = lo + hi := w64_id (by omega)
        have e2 : w64 ((lo + hi).tdiv 2) = (lo + hi) / 2 := by rw [Int.tdiv_eq_ediv_of_nonneg (by omega)]; exact w64_id (by omega)
        have hm : lo ≤ (lo + hi) / 2 ∧ (lo + hi) / 2 < hi := by omega
        generalize hmid : (lo + hi) / 2 = mid at *
        have hmm : mid * mid ≤ 67108864 * 67108864 := sq_le (by omega) (by omega)
        have hmm0 := sq_nonneg mid
        have e3 : w64 (mid * mid) = mid * mid := w64_id (by omega)
        have e4 : w64 (mid + 1) = mid + 1 := w64_id (by omega)
        simp only [e1, e2, e3, e4, hlt, decide_true, cond_true]
        by_cases hc : mid * mid < n
        · simp only [hc, decide_true, cond_true]
          refine ⟨_, rfl, ⟨by omega, by omega, h3, fun m hm0 hm1 => ?_, h5⟩, by dsimp only; omega⟩
          rcases Int.lt_or_le m mid with q | q
          · have := Int.mul_le_mul (show m ≤ mid by omega) (show m ≤ mid by omega) hm0 (by omega); omega
          · have : m = mid := by dsimp only at hm1; omega
            subst this; exact hc
        · simp only [hc, decide_false, cond_false]
          exact ⟨_, rfl, ⟨h1, by dsimp only; omega, by dsimp only; omega, h4, .inr (by dsimp only; omega)⟩, by dsimp only; omega⟩
      · simp only [hlt, decide_false, cond_false]
        obtain rfl : lo = hi := by omega
        exact ⟨_, rfl, h1, h3, h4, h5⟩) (0, 67108864) ⟨by decide, by decide, by decide, fun m h1 h2 => by dsimp only at h2; omega, .inl rfl⟩
  obtain ⟨y, hy, h1, h2, h3, h4⟩ := key
  refine ⟨y, ?_, h1, h2, h3, h4⟩
  have hmm : y * y ≤ 67108864 * 67108864 := sq_le (by omega) (by omega)
  have hmm0 := sq_nonneg y
  unfold curve_root
  rw [hy, Option.bind_some, w64_id (by omega)]
/-- The least number whose square is not less. -/
noncomputable def rt (n : Int) : Int := (curve_root_spec n).choose
theorem curve_root_rt (n : Int) : curve_root n = some (rt n, rt n * rt n == n) := (curve_root_spec n).choose_spec.1
theorem rt_nonneg (n : Int) : 0 ≤ rt n := (curve_root_spec n).choose_spec.2.1
theorem rt_min (n m : Int) (h1 : 0 ≤ m) (h2 : m < rt n) : m * m < n := (curve_root_spec n).choose_spec.2.2.2.1 m h1 h2
theorem rt_max (n : Int) : rt n = 67108864 ∨ n ≤ rt n * rt n := (curve_root_spec n).choose_spec.2.2.2.2
theorem rt_sq {l : Int} (h0 : 0 ≤ l) (h1 : l ≤ 67108864) : rt (l * l) = l := by
  rcases Int.lt_trichotomy (rt (l * l)) l with q | q | q
  · rcases rt_max (l * l) with h | h
    · omega
    · have h2 := rt_nonneg (l * l)
      have := Int.mul_lt_mul' (show rt (l * l) ≤ l by omega) q h2 (by omega); omega
  · exact q
  · have := rt_min (l * l) l h0 q; omega

end Go.Abs.Roads

namespace Go.Abs.Roads
open Go Go.Abs

def okS (p : Spot) : Bool := decide (-16777216 ≤ p.X) && decide (p.X ≤ 16777216) && decide (-16777216 ≤ p.Y) && decide (p.Y ≤ 16777216)
theorem okS_iff {p : Spot} : okS p = true ↔ -16777216 ≤ p.X ∧ p.X ≤ 16777216 ∧ -16777216 ≤ p.Y ∧ p.Y ≤ 16777216 := by simp [okS, and_assoc]
theorem fair_cond (p : Spot) : ((decide ((mm2 false p.X p.Y) < (-16777216))) || (decide ((mm2 true p.X p.Y) > 16777216))) = !okS p := by
  rw [mm2_min, mm2_max]
  cases h : okS p with
  | true => have := okS_iff.1 h; simp; omega
  | false =>
    have : ¬ (-16777216 ≤ p.X ∧ p.X ≤ 16777216 ∧ -16777216 ≤ p.Y ∧ p.Y ≤ 16777216) := fun q => by rw [okS_iff.2 q] at h; cases h
    simp; omega
theorem curve_fair_go (l : List Spot) (hl : l.length ≤ 1000000) : ∀ (r : List Spot) (i : Nat), l.drop i = r → loop (curve_fair_l1 l) (i : Int) = some (if r.all okS then .inl () else .inr false) := by
  intro r
  induction r with
  | nil =>
    intro i hi
    have := drop_nil hi
    refine loop_out ?_
    unfold curve_fair_l1
    simp only [show ¬ (i : Int) < l.length by omega, decide_false, cond_false, List.all_nil, if_true]
  | cons p r ih =>
    intro i hi
    have hlt := drop_lt hi
    have hstep : curve_fair_l1 l (i : Int) = if okS p then some (.go ((i + 1 : Nat) : Int)) else some (.out (.inr false)) := by
      unfold curve_fair_l1
      simp only [show (i : Int) < l.length by omega, decide_true, cond_true, geti_drop hi, Option.bind_some, fair_cond]
      cases h : okS p with
      | true => simp only [Bool.not_true, cond_false, if_true]; rw [w64_id (by omega)]; rfl
      | false => simp
    cases h : okS p with
    | true =>
      rw [h, if_pos rfl] at hstep
      rw [loop_go hstep, ih (i + 1) (drop_succ hi)]
      simp [h]
    | false =>
      rw [h] at hstep
      rw [loop_out hstep]
      simp [h]
theorem curve_fair_eq (l : List Spot) (hl : l.length ≤ 1000000) : curve_fair l = some (l.all okS) := by
  unfold curve_fair
  have := curve_fair_go l hl l 0 (by simp)
  rw [show ((0 : Nat) : Int) = 0 from rfl] at this
  rw [this]
  cases l.all okS <;> rfl
def vec (p q : Spot) : CurveVector := ⟨q.X - p.X, q.Y - p.Y⟩
def dotv (v w : CurveVector) : Int := v.x * w.x + v.y * w.y
/-- A vector between valid spots. -/
def okV (v : CurveVector) : Prop := -33554432 ≤ v.x ∧ v.x ≤ 33554432 ∧ -33554432 ≤ v.y ∧ v.y ≤ 33554432
theorem okV_vec {p q : Spot} (hp : okS p = true) (hq : okS q = true) : okV (vec p q) := by
  have := okS_iff.1 hp; have := okS_iff.1 hq
  unfold okV vec; dsimp only; omega
theorem curve_from_eq {p q : Spot} (hp : okS p = true) (hq : okS q = true) : curve_from p q = some (vec p q) := by
  have := okS_iff.1 hp; have := okS_iff.1 hq
  unfold curve_from vec
  rw [w64_id (by omega), w64_id (by omega)]
theorem dot_bd {v w : CurveVector} (hv : okV v) (hw : okV w) : -2251799813685248 ≤ dotv v w ∧ dotv v w ≤ 2251799813685248 ∧ (-1125899906842624 ≤ v.x * w.x ∧ v.x * w.x ≤ 1125899906842624) ∧ -1125899906842624 ≤ v.y * w.y ∧ v.y * w.y ≤ 1125899906842624 := by
  obtain ⟨a1, a2, a3, a4⟩ := hv
  obtain ⟨b1, b2, b3, b4⟩ := hw
  have h1 := mul_bd ⟨a1, a2⟩ ⟨b1, b2⟩
  have h2 := mul_bd ⟨a3, a4⟩ ⟨b3, b4⟩
  unfold dotv
  omega
theorem curve_dot_eq {v w : CurveVector} (hv : okV v) (hw : okV w) : curve_vector_dot v w = some (dotv v w) := by
  have h := dot_bd hv hw
  unfold curve_vector_dot
  rw [w64_id (n := v.x * w.x) (by omega), w64_id (n := v.y * w.y) (by omega), w64_id (by unfold dotv at h; omega)]
  rfl
/-- The error of a chain of points, from a piece on; the piece ahead of it. -/
noncomputable def goM : Option CurveVector → List Spot → Int
  | last, p :: q :: r =>
    if rt (dotv (vec p q) (vec p q)) * rt (dotv (vec p q) (vec p q)) ≠ dotv (vec p q) (vec p q) then 3
    else if rt (dotv (vec p q) (vec p q)) < 1000 ∨ rt (dotv (vec p q) (vec p q)) > 1048576 then 2
    else match last with
      | some u => if dotv u (vec p q) ≤ 0 then 12 else goM (some (vec p q)) (q :: r)
      | none => goM (some (vec p q)) (q :: r)
  | _, _ => 0
theorem goM_cons (last : Option CurveVector) (p q : Spot) (r : List Spot) : goM last (p :: q :: r) =
    if rt (dotv (vec p q) (vec p q)) * rt (dotv (vec p q) (vec p q)) ≠ dotv (vec p q) (vec p q) then 3
    else if rt (dotv (vec p q) (vec p q)) < 1000 ∨ rt (dotv (vec p q) (vec p q)) > 1048576 then 2
    else match last with
      | some u => if dotv u (vec p q) ≤ 0 then 12 else goM (some (vec p q)) (q :: r)
      | none => goM (some (vec p q)) (q :: r) := by
  conv => lhs; unfold goM
noncomputable def checkM (l : List Spot) : Int := if l.length < 2 then 6 else if l.length > 16 then 5 else if l.all okS then goM none l else 2

theorem curve_Check_go (c : Curve) (hl : c.Pts.length ≤ 1000000) (hok : c.Pts.all okS = true) : ∀ (r : List Spot) (p : Spot) (i : Nat) (last : CurveVector), c.Pts.drop i = p :: r → okV last →
    loop (curve_Check_l1 c) ((i : Int), last) = some (if goM (if i = 0 then none else some last) (p :: r) = 0 then .inl () else .inr (goM (if i = 0 then none else some last) (p :: r))) := by
  intro r
  induction r with
  | nil =>
    intro p i last hi hlast
    have hlt := drop_lt hi
    have := drop_nil (drop_succ hi)
    refine loop_out ?_
    unfold curve_Check_l1
    dsimp only
    rw [w64_id (n := (c.Pts.length : Int) - 1) (by omega)]
    simp only [show ¬ (i : Int) < (c.Pts.length : Int) - 1 by omega, decide_false, cond_false, goM, if_true]
  | cons q r ih =>
    intro p i last hi hlast
    have hlt := drop_lt hi
    have hi1 := drop_succ hi
    have hlt1 := drop_lt hi1
    have hp : okS p = true := List.all_eq_true.1 hok p (List.mem_of_mem_drop (i := i) (by rw [hi]; simp))
    have hq : okS q = true := List.all_eq_true.1 hok q (List.mem_of_mem_drop (i := i) (by rw [hi]; simp))
    have hv := okV_vec hp hq
    have hg1 : geti c.Pts ((i : Int) + 1) = some q := by have := geti_drop hi1; simpa using this
    have hstep : curve_Check_l1 c ((i : Int), last) =
        if rt (dotv (vec p q) (vec p q)) * rt (dotv (vec p q) (vec p q)) ≠ dotv (vec p q) (vec p q) then some (.out (.inr 3))
        else if rt (dotv (vec p q) (vec p q)) < 1000 ∨ rt (dotv (vec p q) (vec p q)) > 1048576 then some (.out (.inr 2))
        else if i ≠ 0 ∧ dotv last (vec p q) ≤ 0 then some (.out (.inr 12)) else some (.go (((i + 1 : Nat) : Int), vec p q)) := by
      unfold curve_Check_l1
      dsimp only
      rw [w64_id (n := (c.Pts.length : Int) - 1) (by omega), w64_id (n := (i : Int) + 1) (by omega)]
      simp only [show (i : Int) < (c.Pts.length : Int) - 1 by omega, decide_true, cond_true, geti_drop hi, hg1, Option.bind_some, curve_from_eq hp hq, curve_dot_eq hv hv, curve_root_rt]
      by_cases h1 : rt (dotv (vec p q) (vec p q)) * rt (dotv (vec p q) (vec p q)) = dotv (vec p q) (vec p q)
      · simp only [h1, beq_self_eq_true, Bool.not_true, cond_false, ne_eq, not_true_eq_false, if_false]
        by_cases h2 : rt (dotv (vec p q) (vec p q)) < 1000 ∨ rt (dotv (vec p q) (vec p q)) > 1048576
        · rw [if_pos h2]
          have : (decide (rt (dotv (vec p q) (vec p q)) < 1000) || decide (rt (dotv (vec p q) (vec p q)) > 1048576)) = true := by simpa using h2
          rw [this]; rfl
        · rw [if_neg h2]
          have : (decide (rt (dotv (vec p q) (vec p q)) < 1000) || decide (rt (dotv (vec p q) (vec p q)) > 1048576)) = false := by simpa using h2
          rw [this]
          simp only [cond_false]
          by_cases h3 : i = 0
          · subst h3
            simp only [Int.natCast_zero, gt_iff_lt, Int.lt_irrefl, decide_false, cond_false, Bool.false_and, Option.bind_some, not_true_eq_false, false_and, if_false]
            rfl
          · have h4 : (i : Int) > 0 := by omega
            simp only [h4, decide_true, cond_true, curve_dot_eq hlast hv, Option.bind_some, Bool.true_and, h3, not_false_eq_true, true_and]
            by_cases h5 : dotv last (vec p q) ≤ 0 <;> simp [h5]
      · have : (rt (dotv (vec p q) (vec p q)) * rt (dotv (vec p q) (vec p q)) == dotv (vec p q) (vec p q)) = false := by simpa using h1
        simp only [this, Bool.not_false, cond_true, ne_eq, h1, not_false_eq_true, if_true]
    rw [goM_cons]
    by_cases h1 : rt (dotv (vec p q) (vec p q)) * rt (dotv (vec p q) (vec p q)) ≠ dotv (vec p q) (vec p q)
    · rw [if_pos h1] at hstep
      rw [loop_out hstep, if_pos h1]; rfl
    · rw [if_neg h1] at hstep ⊢
      by_cases h2 : rt (dotv (vec p q) (vec p q)) < 1000 ∨ rt (dotv (vec p q) (vec p q)) > 1048576
      · rw [if_pos h2] at hstep
        rw [loop_out hstep, if_pos h2]; rfl
      · rw [if_neg h2] at hstep ⊢
        by_cases h3 : i = 0
        · subst h3
          rw [if_neg (by simp)] at hstep
          rw [loop_go hstep, ih q (0 + 1) (vec p q) hi1 hv]
          simp
        · by_cases h5 : dotv last (vec p q) ≤ 0
          · rw [if_pos ⟨h3, h5⟩] at hstep
            rw [loop_out hstep]
            simp [h3, h5]
          · rw [if_neg (fun h => h5 h.2)] at hstep
            rw [loop_go hstep, ih q (i + 1) (vec p q) hi1 hv]
            simp [h3, h5]
theorem curve_Check_eq (c : Curve) (hl : c.Pts.length ≤ 1000000) : curve_Check c = some (checkM c.Pts) := by
  unfold curve_Check checkM
  by_cases h1 : c.Pts.length < 2
  · rw [if_pos h1, show decide ((c.Pts.length : Int) < 2) = true by simp; omega]; rfl
  · rw [if_neg h1, show decide ((c.Pts.length : Int) < 2) = false by simp; omega]
    simp only [cond_false]
    by_cases h2 : c.Pts.length > 16
    · rw [if_pos h2, show decide ((c.Pts.length : Int) > 16) = true by simp; omega]; rfl
    · rw [if_neg h2, show decide ((c.Pts.length : Int) > 16) = false by simp; omega]
      simp only [cond_false, curve_fair_eq c.Pts hl, Option.bind_some]
      cases h3 : c.Pts.all okS with
      | false => rfl
      | true =>
        simp only [Bool.not_true, cond_false, if_true]
        cases hp : c.Pts with
        | nil => rw [hp] at h1; simp at h1
        | cons p r =>
          have := curve_Check_go c hl h3 r p 0 ⟨0, 0⟩ (by rw [hp]; rfl) ⟨by decide, by decide, by decide, by decide⟩
          rw [if_pos rfl, show ((0 : Nat) : Int) = 0 from rfl] at this
          rw [this]
          by_cases h4 : goM none (p :: r) = 0
          · rw [if_pos h4, h4]; rfl
          · rw [if_neg h4]; rfl
end Go.Abs.Roads

namespace Go.Abs.Roads
open Go Go.Abs

/-- What a valid chain is. -/
inductive Good : Option CurveVector → List Spot → Prop
  | one (last : Option CurveVector) (p : Spot) : Good last [p]
  | cons (last : Option CurveVector) (p q : Spot) (r : List Spot) (h1 : rt (dotv (vec p q) (vec p q)) * rt (dotv (vec p q) (vec p q)) = dotv (vec p q) (vec p q)) (h2 : 1000 ≤ rt (dotv (vec p q) (vec p q))) (h3 : rt (dotv (vec p q) (vec p q)) ≤ 1048576)
      (h4 : ∀ u, last = some u → 0 < dotv u (vec p q)) (h : Good (some (vec p q)) (q :: r)) : Good last (p :: q :: r)
theorem good_of_goM : ∀ (r : List Spot) (p : Spot) (last : Option CurveVector), goM last (p :: r) = 0 → Good last (p :: r) := by
  intro r
  induction r with
  | nil => intro p last _; exact .one _ _
  | cons q r ih =>
    intro p last h
    rw [goM_cons] at h
    split at h
    · cases h
    · rename_i h1
      split at h
      · cases h
      · rename_i h2
        have h1 : rt (dotv (vec p q) (vec p q)) * rt (dotv (vec p q) (vec p q)) = dotv (vec p q) (vec p q) := by simpa using h1
        cases last with
        | none => exact .cons _ _ _ _ h1 (by omega) (by omega) (fun u hu => by cases hu) (ih q _ h)
        | some u =>
          dsimp only at h
          split at h
          · cases h
          · exact .cons _ _ _ _ h1 (by omega) (by omega) (fun u' hu => by cases hu; omega) (ih q _ h)
theorem goM_of_good {last : Option CurveVector} {l : List Spot} (h : Good last l) : goM last l = 0 := by
  induction h with
  | one => rfl
  | cons last p q r h1 h2 h3 h4 h ih =>
    rw [goM_cons, if_neg (by simpa using h1), if_neg (by omega)]
    cases last with
    | none => exact ih
    | some u => dsimp only; rw [if_neg (by have := h4 u rfl; omega)]; exact ih
structure Valid (l : List Spot) : Prop where
  two : 2 ≤ l.length
  most : l.length ≤ 16
  ok : l.all okS = true
  good : Good none l
theorem checkM_zero {l : List Spot} : checkM l = 0 ↔ Valid l := by
  unfold checkM
  constructor
  · intro h
    split at h
    · cases h
    · rename_i h1
      split at h
      · cases h
      · rename_i h2
        split at h
        · rename_i h3
          cases l with
          | nil => simp at h1
          | cons p r => exact ⟨by omega, by omega, h3, good_of_goM r p none h⟩
        · cases h
  · rintro ⟨h1, h2, h3, h4⟩
    rw [if_neg (by omega), if_neg (by omega), if_pos h3]
    exact goM_of_good h4
end Go.Abs.Roads

namespace Go.Abs.Roads
open Go Go.Abs

/-- The pieces of a chain: the number, the piece. -/
noncomputable def piecesM : Nat → Int → List Spot → List (Int × CurvePiece)
  | i, s, p :: q :: r => ((i : Int), ⟨p, vec p q, rt (dotv (vec p q) (vec p q)), s⟩) :: piecesM (i + 1) (w64 (s + rt (dotv (vec p q) (vec p q)))) (q :: r)
  | _, _, _ => []
theorem piecesM_cons (i : Nat) (s : Int) (p q : Spot) (r : List Spot) : piecesM i s (p :: q :: r) = ((i : Int), ⟨p, vec p q, rt (dotv (vec p q) (vec p q)), s⟩) :: piecesM (i + 1) (w64 (s + rt (dotv (vec p q) (vec p q)))) (q :: r) := by conv => lhs; unfold piecesM
theorem piecesGo_eq (pts : List Spot) (hok : pts.all okS = true) : ∀ (r : List Spot) (p : Spot) (i : Nat) (s : Int), pts.drop i = p :: r → piecesGo pts r.length i s = some (piecesM i s (p :: r)) := by
  intro r
  induction r with
  | nil => intro p i s _; rfl
  | cons q r ih =>
    intro p i s hi
    have hi1 := drop_succ hi
    have hp : okS p = true := List.all_eq_true.1 hok p (List.mem_of_mem_drop (i := i) (by rw [hi]; simp))
    have hq : okS q = true := List.all_eq_true.1 hok q (List.mem_of_mem_drop (i := i) (by rw [hi]; simp))
    have hv := okV_vec hp hq
    have h0 : pts[i]? = some p := by have := congrArg (fun z => z[0]?) hi; simpa using this
    have h1 : pts[i + 1]? = some q := by have := congrArg (fun z => z[0]?) hi1; simpa using this
    rw [List.length_cons, piecesGo, h0, h1]
    simp only [Option.bind_some, curve_from_eq hp hq, curve_dot_eq hv hv, curve_root_rt]
    rw [ih q (i + 1) _ hi1, piecesM_cons]
    rfl
theorem piecesC_eq {pts : List Spot} (h : Valid pts) : piecesC pts = some (piecesM 0 0 pts) := by
  unfold piecesC
  have := h.most
  rw [if_pos (by omega)]
  cases hp : pts with
  | nil => have := h.two; rw [hp] at this; simp at this
  | cons p r => exact piecesGo_eq (p :: r) (by rw [← hp]; exact h.ok) r p 0 0 rfl
/-- The lengths. -/
noncomputable def lens : List Spot → List Int
  | p :: q :: r => rt (dotv (vec p q) (vec p q)) :: lens (q :: r)
  | _ => []
theorem lens_cons (p q : Spot) (r : List Spot) : lens (p :: q :: r) = rt (dotv (vec p q) (vec p q)) :: lens (q :: r) := by conv => lhs; unfold lens
theorem lens_length : ∀ (r : List Spot) (p : Spot), (lens (p :: r)).length = r.length
  | [], _ => rfl
  | q :: r, p => by rw [lens_cons, List.length_cons, lens_length r q, List.length_cons]
theorem piecesM_lens : ∀ (r : List Spot) (p : Spot) (i : Nat) (s : Int), (piecesM i s (p :: r)).map (·.2.l) = lens (p :: r)
  | [], _, _, _ => rfl
  | q :: r, p, i, s => by rw [piecesM_cons, lens_cons, List.map_cons, piecesM_lens r q]
theorem pieces_loop : ∀ (L : List (Int × CurvePiece)) (out : List Int), out.length + L.length ≤ 1000000000 → loopL curve_Pieces_l1 (fun x => x) L out = some (out ++ L.map (·.2.l)) := by
  intro L
  induction L with
  | nil => intro out _; simp [loopL]
  | cons a L ih =>
    intro out h
    simp only [List.length_cons] at h
    have : curve_Pieces_l1 out a = some (.go (out ++ [a.2.l])) := by
      unfold curve_Pieces_l1
      rw [appc_ok (by simp; omega)]; rfl
    rw [loopL, this]
    dsimp only
    rw [ih _ (by simp; omega)]
    simp
theorem curve_Pieces_eq (c : Curve) (hl : c.Pts.length ≤ 1000000) : curve_Pieces c = some (if checkM c.Pts = 0 then lens c.Pts else []) := by
  unfold curve_Pieces
  rw [curve_Check_eq c hl, Option.bind_some]
  by_cases h : checkM c.Pts = 0
  · rw [if_pos h, h]
    have hv := checkM_zero.1 h
    have := hv.most
    simp only [bne_self_eq_false, cond_false, piecesC_eq hv, Option.bind_some]
    cases hp : c.Pts with
    | nil => have := hv.two; rw [hp] at this; simp at this
    | cons p r =>
      have e := piecesM_lens r p 0 0
      rw [pieces_loop _ _ (by
        have := congrArg List.length e
        rw [List.length_map, lens_length] at this
        rw [this]; rw [hp] at hl; simp at hl ⊢; omega)]
      rw [e]; rfl
  · rw [if_neg h, show (checkM c.Pts != 0) = true from bne_iff_ne.2 h]; rfl

/-- A sum, as the programs take it. -/
def sumW : Int → List Int → Int
  | s, [] => s
  | s, a :: l => sumW (w64 (s + a)) l
theorem curve_Length_loop (l : List Int) (hl : l.length ≤ 1000000) : ∀ (r : List Int) (i : Nat) (s : Int), l.drop i = r → loop (curve_Length_l1 l) (s, (i : Int)) = some (sumW s r) := by
  intro r
  induction r with
  | nil =>
    intro i s hi
    have := drop_nil hi
    refine loop_out ?_
    unfold curve_Length_l1
    simp only [show ¬ (i : Int) < l.length by omega, decide_false, cond_false, sumW]
  | cons a r ih =>
    intro i s hi
    have hlt := drop_lt hi
    have hstep : curve_Length_l1 l (s, (i : Int)) = some (.go (w64 (s + a), ((i + 1 : Nat) : Int))) := by
      unfold curve_Length_l1
      simp only [show (i : Int) < l.length by omega, decide_true, cond_true, geti_drop hi, Option.bind_some]
      rw [w64_id (n := (i : Int) + 1) (by omega)]; rfl
    rw [loop_go hstep, ih (i + 1) _ (drop_succ hi), sumW]
noncomputable def piecesL (c : Curve) : List Int := if checkM c.Pts = 0 then lens c.Pts else []
theorem lens_le : ∀ l : List Spot, (lens l).length ≤ l.length
  | [] => by simp [lens]
  | p :: r => by rw [lens_length]; simp
theorem piecesL_le (c : Curve) : (piecesL c).length ≤ c.Pts.length := by
  unfold piecesL
  split
  · exact lens_le _
  · simp
theorem curve_Length_eq (c : Curve) (hl : c.Pts.length ≤ 1000000) : curve_Length c = some (sumW 0 (piecesL c)) := by
  unfold curve_Length
  rw [curve_Pieces_eq c hl, Option.bind_some]
  have := piecesL_le c
  have h := curve_Length_loop (piecesL c) (by omega) (piecesL c) 0 0 (by simp)
  rw [show ((0 : Nat) : Int) = 0 from rfl] at h
  show (loop (curve_Length_l1 (piecesL c)) (0, 0)).bind _ = _
  rw [h]; rfl
end Go.Abs.Roads




namespace Go.Abs.Roads
open Go Go.Abs

/-- A quarter turn, so many times. -/
def rotM : Nat → CurveVector → CurveVector
  | 0, v => v
  | n + 1, v => rotM n ⟨-v.y, v.x⟩
theorem rot_dot : ∀ (n : Nat) (v w : CurveVector), dotv (rotM n v) (rotM n w) = dotv v w
  | 0, _, _ => rfl
  | n + 1, v, w => by rw [rotM, rotM, rot_dot n]; unfold dotv; grind
/-- A piece's vector, made of numbers: in one quadrant. -/
def Quad (n : Nat) (v : CurveVector) : Prop := ∃ x y L : Int, v = rotM n ⟨x, y⟩ ∧ 0 < x ∧ 0 ≤ y ∧ x * x + y * y = L * L ∧ 1000 ≤ L ∧ L ≤ 3029 ∧ x ≤ L ∧ y ≤ L
inductive Ch (Q : CurveVector → Prop) : List Spot → Prop
  | one (p : Spot) : Ch Q [p]
  | cons (p q : Spot) (r : List Spot) (h : Q (vec p q)) (hr : Ch Q (q :: r)) : Ch Q (p :: q :: r)
theorem good_of_ch {n : Nat} : ∀ (r : List Spot) (p : Spot) (last : Option CurveVector), Ch (Quad n) (p :: r) → (∀ u, last = some u → Quad n u) → Good last (p :: r)
  | [], p, last, _, _ => .one _ _
  | q :: r, p, last, hc, hl => by
    cases hc with
    | cons _ _ _ h1 h2 =>
      have hq := h1
      obtain ⟨x, y, L, hv, hx, hy, hsq, hL1, hL2, hxL, hyL⟩ := h1
      have hd : dotv (vec p q) (vec p q) = L * L := by rw [hv, rot_dot]; unfold dotv; exact hsq
      have hrt : rt (dotv (vec p q) (vec p q)) = L := by rw [hd]; exact rt_sq (by omega) (by omega)
      refine .cons _ _ _ _ (by rw [hrt, hd]) (by rw [hrt]; exact hL1) (by rw [hrt]; omega) (fun u hu => ?_) (good_of_ch r q _ h2 (fun u hu => by cases hu; exact hq))
      obtain ⟨x', y', L', hv', hx', hy', _⟩ := hl u hu
      rw [hv, hv', rot_dot]
      unfold dotv
      have := Int.mul_pos hx' hx
      have := Int.mul_nonneg hy' hy
      dsimp only
      omega
/-- What the curves made of numbers are like. -/
structure Made (l : List Spot) : Prop where
  two : 2 ≤ l.length
  six : l.length ≤ 6
  ch : ∃ n, Ch (Quad n) l
  bd : ∀ p ∈ l, -50000 ≤ p.X ∧ p.X ≤ 50000 ∧ -50000 ≤ p.Y ∧ p.Y ≤ 50000
theorem Made.valid {l : List Spot} (h : Made l) : Valid l := by
  obtain ⟨n, hc⟩ := h.ch
  have := h.two; have := h.six
  refine ⟨h.two, by omega, List.all_eq_true.2 fun p hp => okS_iff.2 (by have := h.bd p hp; omega), ?_⟩
  match l, h, hc with
  | p :: r, _, hc => exact good_of_ch r p none hc (fun u hu => by cases hu)
  | [], h, _ => exact absurd h.two (by simp)
end Go.Abs.Roads

namespace Go.Abs.Roads
open Go Go.Abs

/-! ### Loops that look for the first error -/
def firstE {α β : Type} (g : Nat → α → Option β) : Nat → List α → Option β
  | _, [] => none
  | i, a :: r => match g i a with
    | some e => some e
    | none => firstE g (i + 1) r
def outE {β : Type} : Option β → Sum Unit β
  | some e => .inr e
  | none => .inl ()
theorem each_loop {α β : Type} (l : List α) (F : Int → Option (Stp Int (Sum Unit β))) (g : Nat → α → Option β) (hF : ∀ (i : Nat) a, l[i]? = some a → F (i : Int) = some (match g i a with | some e => .out (.inr e) | none => .go ((i + 1 : Nat) : Int))) (h0 : F (l.length : Int) = some (.out (.inl ()))) :
    loop F 0 = some (outE (firstE g 0 l)) := by
  have key : ∀ (r : List α) (i : Nat), l.drop i = r → i ≤ l.length → loop F (i : Int) = some (outE (firstE g i r)) := by
    intro r
    induction r with
    | nil =>
      intro i hi hil
      have : i = l.length := by have := List.drop_eq_nil_iff.1 hi; omega
      subst this
      exact loop_out h0
    | cons a r ih =>
      intro i hi hil
      have hlt : i < l.length := by
        rcases Nat.lt_or_ge i l.length with q | q
        · exact q
        · rw [List.drop_eq_nil_of_le q] at hi; cases hi
      have ha : l[i]? = some a := by have := congrArg (fun z => z[0]?) hi; simpa using this
      have hr : l.drop (i + 1) = r := by have := congrArg (fun z => z.drop 1) hi; simpa using this
      have hs := hF i a ha
      unfold firstE
      cases hg : g i a with
      | some e => rw [hg] at hs; exact loop_out hs
      | none => rw [hg] at hs; rw [loop_go hs]; exact ih (i + 1) hr (by omega)
  have := key l 0 rfl (by omega)
  exact this
theorem firstE_none {α β : Type} {g : Nat → α → Option β} : ∀ {l : List α} {i : Nat}, firstE g i l = none ↔ ∀ (j : Nat) a, l[j]? = some a → g (i + j) a = none
  | [], i => by simp [firstE]
  | a :: r, i => by
    unfold firstE
    cases h : g i a with
    | some e =>
      constructor
      · intro h'; cases h'
      · intro h'; have := h' 0 a rfl; rw [Nat.add_zero, h] at this; cases this
    | none =>
      dsimp only
      rw [firstE_none (l := r)]
      constructor
      · intro h' j b hj
        cases j with
        | zero => cases hj; exact h
        | succ j => have := h' j b hj; rwa [show i + 1 + j = i + (j + 1) by omega] at this
      · intro h' j b hj
        have := h' (j + 1) b hj
        rwa [show i + (j + 1) = i + 1 + j by omega] at this

/-! ### Numbers -/
def inR (n a b : Int) : Bool := decide (a ≤ n) && decide (n ≤ b)
theorem within_eq (n a b : Int) : roads_within n a b = some (inR n a b) := rfl
def topM (kind : Int) : Int × Int × Int := if kind = 1 then (2000, 30, 90) else if kind = 2 then (1000, 20, 60) else if kind = 3 then (300, 100, 300) else (0, 0, 0)
theorem Bounds_eq (k : Int) : roads_Bounds k = some (topM k) := by
  unfold roads_Bounds topM
  by_cases h : k < 0 ∨ k ≥ 4
  · rw [show ((decide (k < 0)) || (decide (k ≥ 4))) = true by simpa using h, cond_true, if_neg (by omega), if_neg (by omega), if_neg (by omega)]
  · rw [show ((decide (k < 0)) || (decide (k ≥ 4))) = false by rw [Bool.eq_false_iff]; simpa using h, cond_false]
    obtain ⟨h1, h2⟩ := not_or.1 h
    rcases (show k = 0 ∨ k = 1 ∨ k = 2 ∨ k = 3 by omega) with rfl | rfl | rfl | rfl <;> rfl
end Go.Abs.Roads

namespace Go.Abs.Roads
open Go Go.Abs
theorem wid {n : Int} (h : -9223372036854775808 ≤ n ∧ n ≤ 9223372036854775807) : w64 n = n := Go.IntWalk.i64_in n h
theorem geti_get {α : Type} {l : List α} {i : Nat} {a : α} (h : l[i]? = some a) : geti l (i : Int) = some a := by
  unfold geti; rw [if_pos (by omega), Int.toNat_natCast]; exact h
theorem lt_get {α : Type} {l : List α} {i : Nat} {a : α} (h : l[i]? = some a) : i < l.length := (List.getElem?_eq_some_iff.1 h).1
theorem cond_cc {α : Type} (c : Bool) (a b : α) : cond c (some a) (some b) = some (cond c a b) := by cases c <;> rfl
def riseM (high : Int) : Int → List Int → Bool
  | _, [] => true
  | low, n :: r => decide (low ≤ n) && decide (n < high) && riseM high (n + 1) r
theorem rising_eq (l : List Int) (low high : Int) (hl : l.length ≤ 1000000) (hh : high ≤ 1000000000) (h0 : 0 ≤ low) : roads_rising l low high = some (riseM high low l) := by
  have key : ∀ (r : List Int) (i : Nat) (lo : Int), 0 ≤ lo → l.drop i = r → i ≤ l.length → loop (roads_rising_l1 l high) (lo, (i : Int)) = some (if riseM high lo r then .inl () else .inr false) := by
    intro r
    induction r with
    | nil =>
      intro i lo _ hi hil
      have := drop_nil hi
      refine loop_out ?_
      unfold roads_rising_l1
      dsimp only
      rw [show decide ((i : Int) < (l.length : Int)) = false from decide_eq_false (by omega)]; rfl
    | cons n r ih =>
      intro i lo hlo hi hil
      have hlt := drop_lt hi
      have hs : roads_rising_l1 l high (lo, (i : Int)) = some (if decide (lo ≤ n) && decide (n < high) then .go (n + 1, ((i + 1 : Nat) : Int)) else .out (.inr false)) := by
        unfold roads_rising_l1
        dsimp only
        rw [show decide ((i : Int) < (l.length : Int)) = true from decide_eq_true (by omega), geti_drop hi, cond_true, Option.bind_some, wid (n := (i : Int) + 1) (by omega)]
        by_cases q : lo ≤ n ∧ n < high
        · rw [show ((decide (n < lo)) || (decide (n ≥ high))) = false by rw [Bool.eq_false_iff]; simp; omega, cond_false, wid (n := n + 1) (by omega), if_pos (by simpa using q)]; rfl
        · rw [show ((decide (n < lo)) || (decide (n ≥ high))) = true by simp; omega, cond_true, if_neg (by simpa using q)]
      unfold riseM
      cases q : (decide (lo ≤ n) && decide (n < high))
      · rw [q] at hs; rw [loop_out hs]; rfl
      · rw [q] at hs
        simp only [Bool.and_eq_true, decide_eq_true_eq] at q
        rw [loop_go hs, ih (i + 1) (n + 1) (by omega) (drop_succ hi) (by omega)]; rfl
  unfold roads_rising
  have := key l 0 low h0 rfl (by omega)
  rw [show ((0 : Nat) : Int) = 0 from rfl] at this
  rw [this]
  cases riseM high low l <;> rfl
end Go.Abs.Roads

namespace Go.Abs.Roads
open Go Go.Abs
noncomputable def lenM (c : Curve) : Int := sumW 0 (piecesL c)
theorem long_eq {m : Map} {i : Nat} {l : Lane} (h : m.Lanes[i]? = some l) (hl : l.Curve_.Pts.length ≤ 1000000) : roads_long m (i : Int) = some (lenM l.Curve_) := by
  unfold roads_long
  rw [geti_get h, Option.bind_some, curve_Length_eq _ hl]; rfl
/-- The lists of a map are of bearable lengths. -/
structure Bear (m : Map) : Prop where
  lanes : m.Lanes.length ≤ 1000000
  pts : ∀ l ∈ m.Lanes, l.Curve_.Pts.length ≤ 1000000 ∧ l.Next.length ≤ 1000000
noncomputable def laneE (n : Nat) (i : Nat) (l : Lane) : Option Int :=
  if (topM l.Kind).1 = 0 then some 4
  else if checkM l.Curve_.Pts ≠ 0 then some (checkM l.Curve_.Pts)
  else if (inR l.Half 200 4000 && inR l.Limit 1 (topM l.Kind).1) = false then some 2
  else if 3 < l.Next.length then some 8
  else if riseM n (i + 1) l.Next = false then some 11 else none
theorem lanes_eq {m : Map} (B : Bear m) : roads_check_lanes ⟨m⟩ = some ((firstE (laneE m.Lanes.length) 0 m.Lanes).getD 0) := by
  have h := each_loop m.Lanes (roads_check_lanes_l1 ⟨m⟩) (laneE m.Lanes.length) (fun i l hl => by
    have hi := lt_get hl
    have hb := B.lanes
    obtain ⟨p1, p2⟩ := B.pts l (List.mem_of_getElem? hl)
    unfold roads_check_lanes_l1 laneE
    dsimp only
    rw [show decide ((i : Int) < (m.Lanes.length : Int)) = true from decide_eq_true (by omega), geti_get hl, cond_true, Option.bind_some, Bounds_eq, Option.bind_some, curve_Check_eq _ p1, Option.bind_some, within_eq, within_eq, Option.bind_some, cond_cc, Option.bind_some, wid (n := (i : Int) + 1) (by omega), rising_eq _ _ _ p2 (by omega) (by omega), Option.bind_some]
    by_cases h1 : (topM l.Kind).1 = 0
    · rw [if_pos h1, show ((topM l.Kind).1 == 0) = true by simpa using h1]; rfl
    · rw [if_neg h1, show ((topM l.Kind).1 == 0) = false by simpa using h1, cond_false]
      by_cases h2 : checkM l.Curve_.Pts ≠ 0
      · rw [if_pos h2, show (checkM l.Curve_.Pts != 0) = true by simpa using h2]; rfl
      · rw [if_neg h2, show (checkM l.Curve_.Pts != 0) = false by simpa using h2, cond_false]
        cases inR l.Half 200 4000
        · rfl
        · cases inR l.Limit 1 (topM l.Kind).1
          · rfl
          · simp only [Bool.not_true, Bool.not_false, cond_true, cond_false, Bool.false_or, Bool.and_self]
            rw [if_neg (by decide)]
            by_cases h3 : 3 < l.Next.length
            · rw [if_pos h3, show decide ((l.Next.length : Int) > 3) = true from decide_eq_true (by omega)]; rfl
            · rw [if_neg h3, show decide ((l.Next.length : Int) > 3) = false from decide_eq_false (by omega), cond_false]
              cases riseM (m.Lanes.length : Int) ((i : Int) + 1) l.Next <;> rfl) (by
    unfold roads_check_lanes_l1
    dsimp only
    rw [show decide ((m.Lanes.length : Int) < (m.Lanes.length : Int)) = false from decide_eq_false (by omega)]; rfl)
  unfold roads_check_lanes
  rw [h]
  cases firstE (laneE m.Lanes.length) 0 m.Lanes <;> rfl
end Go.Abs.Roads

namespace Go.Abs.Roads
open Go Go.Abs
theorem laneE_ne {n i : Nat} {l : Lane} {e : Int} (h : laneE n i l = some e) : e ≠ 0 := by
  unfold laneE at h
  split at h
  · cases h; decide
  · split at h
    · rename_i h2; cases h; exact h2
    · split at h
      · cases h; decide
      · split at h
        · cases h; decide
        · split at h
          · cases h; decide
          · cases h
end Go.Abs.Roads

namespace Go.Abs.Roads
open Go Go.Abs
theorem riseM_mem {high : Int} : ∀ {l : List Int} {low : Int}, riseM high low l = true → ∀ k ∈ l, low ≤ k ∧ k < high
  | [], _, _, k, hk => by cases hk
  | n :: r, low, h, k, hk => by
    unfold riseM at h
    simp only [Bool.and_eq_true, decide_eq_true_eq] at h
    rcases List.mem_cons.1 hk with rfl | hk
    · exact h.1
    · have := riseM_mem h.2 k hk
      omega
/-- What a lane is that has no error of its own. -/
structure LaneOK (n i : Nat) (l : Lane) : Prop where
  kind : (topM l.Kind).1 ≠ 0
  curve : checkM l.Curve_.Pts = 0
  half : inR l.Half 200 4000 = true
  limit : inR l.Limit 1 (topM l.Kind).1 = true
  few : l.Next.length ≤ 3
  next : riseM n (i + 1) l.Next = true
theorem laneE_none {n i : Nat} {l : Lane} (h : laneE n i l = none) : LaneOK n i l := by
  unfold laneE at h
  split at h
  · cases h
  · rename_i h1
    split at h
    · cases h
    · rename_i h2
      split at h
      · cases h
      · rename_i h3
        split at h
        · cases h
        · rename_i h4
          split at h
          · cases h
          · rename_i h5
            simp only [Bool.not_eq_false, Bool.and_eq_true] at h3
            exact ⟨h1, Decidable.not_not.1 h2, h3.1, h3.2, by omega, by simpa using h5⟩
theorem lanes_ok {m : Map} (h : firstE (laneE m.Lanes.length) 0 m.Lanes = none) {i : Nat} {l : Lane} (hl : m.Lanes[i]? = some l) : LaneOK m.Lanes.length i l := by
  have := firstE_none.1 h i l hl
  rw [Nat.zero_add] at this
  exact laneE_none this
end Go.Abs.Roads

namespace Go.Abs.Roads
open Go Go.Abs
theorem check_two {l : List Spot} (h : checkM l = 0) : 2 ≤ l.length := by
  unfold checkM at h
  split at h
  · cases h
  · omega
def headS (l : List Spot) : Spot := l.headD ⟨0, 0⟩
def lastS (l : List Spot) : Spot := l.getLastD ⟨0, 0⟩
theorem head_geti {l : List Spot} (h : 2 ≤ l.length) : geti l 0 = some (headS l) := by
  cases l with
  | nil => simp at h
  | cons a r => rfl
theorem last_geti {l : List Spot} (h : 2 ≤ l.length) (hl : l.length ≤ 1000000) : geti l (w64 ((l.length : Int) - 1)) = some (lastS l) := by
  rw [wid (by omega), show (l.length : Int) - 1 = ((l.length - 1 : Nat) : Int) by omega]
  refine geti_get ?_
  unfold lastS
  rw [List.getLastD_eq_getLast?, List.getLast?_eq_getElem?]
  rw [List.getElem?_eq_getElem (by omega)]; rfl
def sameS (a b : Spot) : Bool := a.X == b.X && (a.Y == b.Y && true)
def jointE (m : Map) (l : Lane) (_ : Nat) (k : Int) : Option Int :=
  match m.Lanes[k.toNat]? with
  | some n => if n.Kind ≠ l.Kind then some 4 else if sameS (headS n.Curve_.Pts) (lastS l.Curve_.Pts) = false then some 3 else none
  | none => none
def nextE (m : Map) (_ : Nat) (l : Lane) : Option Int := firstE (jointE m l) 0 l.Next
theorem joint_step {m : Map} (B : Bear m) (H : firstE (laneE m.Lanes.length) 0 m.Lanes = none) {i : Nat} {l : Lane} (hl : m.Lanes[i]? = some l) {j : Nat} {k : Int} (hk : l.Next[j]? = some k) :
    ∃ n, geti m.Lanes k = some n ∧ m.Lanes[k.toNat]? = some n ∧ 2 ≤ n.Curve_.Pts.length ∧ n.Curve_.Pts.length ≤ 1000000 := by
  have L := lanes_ok H hl
  have hb := riseM_mem L.next k (List.mem_of_getElem? hk)
  have hlt : k.toNat < m.Lanes.length := by omega
  refine ⟨m.Lanes[k.toNat], ?_, List.getElem?_eq_getElem hlt, check_two (lanes_ok H (List.getElem?_eq_getElem hlt)).curve, (B.pts _ (List.getElem_mem hlt)).1⟩
  unfold geti
  rw [if_pos (by omega), List.getElem?_eq_getElem hlt]
end Go.Abs.Roads

namespace Go.Abs.Roads
open Go Go.Abs
theorem jointE_ne {m : Map} {l : Lane} {j : Nat} {k e : Int} (h : jointE m l j k = some e) : e ≠ 0 := by
  unfold jointE at h
  split at h
  · split at h
    · cases h; decide
    · split at h
      · cases h; decide
      · cases h
  · cases h
theorem joints_in {m : Map} (B : Bear m) (H : firstE (laneE m.Lanes.length) 0 m.Lanes = none) {i : Nat} {l : Lane} (hl : m.Lanes[i]? = some l) :
    loop (roads_check_joints_l2 ⟨m⟩ l (lastS l.Curve_.Pts)) 0 = some (outE (nextE m i l)) ∧ loop (ref03_checkNext_l2 m l) 0 = some (outE (nextE m i l)) := by
  have L := lanes_ok H hl
  obtain ⟨p1, p2⟩ := B.pts l (List.mem_of_getElem? hl)
  constructor
  · refine each_loop l.Next _ (jointE m l) (fun j k hk => ?_) ?_
    · have hj := lt_get hk
      obtain ⟨n, g1, g2, g3, g4⟩ := joint_step B H hl hk
      unfold roads_check_joints_l2 jointE
      dsimp only
      rw [show decide ((j : Int) < (l.Next.length : Int)) = true from decide_eq_true (by omega), geti_get hk, cond_true, Option.bind_some, g1, Option.bind_some, Option.bind_some, head_geti g3, Option.bind_some, wid (n := (j : Int) + 1) (by omega), g2]
      dsimp only
      rw [show ((headS n.Curve_.Pts).X == (lastS l.Curve_.Pts).X && ((headS n.Curve_.Pts).Y == (lastS l.Curve_.Pts).Y && true)) = sameS (headS n.Curve_.Pts) (lastS l.Curve_.Pts) from rfl]
      by_cases h1 : n.Kind ≠ l.Kind
      · rw [if_pos h1, show (n.Kind != l.Kind) = true by simpa using h1]; rfl
      · rw [if_neg h1, show (n.Kind != l.Kind) = false by simpa using h1]
        cases sameS (headS n.Curve_.Pts) (lastS l.Curve_.Pts) <;> rfl
    · unfold roads_check_joints_l2
      rw [show decide ((l.Next.length : Int) < (l.Next.length : Int)) = false from decide_eq_false (by omega)]; rfl
  · refine each_loop l.Next _ (jointE m l) (fun j k hk => ?_) ?_
    · have hj := lt_get hk
      obtain ⟨n, g1, g2, g3, g4⟩ := joint_step B H hl hk
      unfold ref03_checkNext_l2 jointE
      rw [show decide ((j : Int) < (l.Next.length : Int)) = true from decide_eq_true (by omega), geti_get hk, cond_true, Option.bind_some, g1, Option.bind_some, head_geti g3, Option.bind_some, last_geti (check_two L.curve) p1, Option.bind_some, wid (n := (j : Int) + 1) (by omega), g2]
      dsimp only
      rw [show ((headS n.Curve_.Pts).X == (lastS l.Curve_.Pts).X && ((headS n.Curve_.Pts).Y == (lastS l.Curve_.Pts).Y && true)) = sameS (headS n.Curve_.Pts) (lastS l.Curve_.Pts) from rfl]
      by_cases h1 : n.Kind ≠ l.Kind
      · rw [if_pos h1, show (n.Kind != l.Kind) = true by simpa using h1]; rfl
      · rw [if_neg h1, show (n.Kind != l.Kind) = false by simpa using h1]
        cases sameS (headS n.Curve_.Pts) (lastS l.Curve_.Pts) <;> rfl
    · unfold ref03_checkNext_l2
      rw [show decide ((l.Next.length : Int) < (l.Next.length : Int)) = false from decide_eq_false (by omega)]; rfl
end Go.Abs.Roads

namespace Go.Abs.Roads
open Go Go.Abs
theorem joints_eq {m : Map} (B : Bear m) (H : firstE (laneE m.Lanes.length) 0 m.Lanes = none) :
    roads_check_joints ⟨m⟩ = some ((firstE (nextE m) 0 m.Lanes).getD 0) ∧ ref03_checkNext m = some ((firstE (nextE m) 0 m.Lanes).getD 0) := by
  have hb := B.lanes
  constructor
  · have h := each_loop m.Lanes (roads_check_joints_l1 ⟨m⟩) (nextE m) (fun i l hl => by
      have hi := lt_get hl
      have L := lanes_ok H hl
      obtain ⟨p1, p2⟩ := B.pts l (List.mem_of_getElem? hl)
      unfold roads_check_joints_l1
      dsimp only
      rw [show decide ((i : Int) < (m.Lanes.length : Int)) = true from decide_eq_true (by omega), geti_get hl, cond_true, Option.bind_some, last_geti (check_two L.curve) p1, Option.bind_some, (joints_in B H hl).1, wid (n := (i : Int) + 1) (by omega)]
      cases nextE m i l <;> rfl) (by
      unfold roads_check_joints_l1
      dsimp only
      rw [show decide ((m.Lanes.length : Int) < (m.Lanes.length : Int)) = false from decide_eq_false (by omega)]; rfl)
    unfold roads_check_joints
    rw [h]
    cases firstE (nextE m) 0 m.Lanes <;> rfl
  · have h := each_loop m.Lanes (ref03_checkNext_l1 m) (nextE m) (fun i l hl => by
      have hi := lt_get hl
      unfold ref03_checkNext_l1
      rw [show decide ((i : Int) < (m.Lanes.length : Int)) = true from decide_eq_true (by omega), geti_get hl, cond_true, Option.bind_some, (joints_in B H hl).2, wid (n := (i : Int) + 1) (by omega)]
      cases nextE m i l <;> rfl) (by
      unfold ref03_checkNext_l1
      rw [show decide ((m.Lanes.length : Int) < (m.Lanes.length : Int)) = false from decide_eq_false (by omega)]; rfl)
    unfold ref03_checkNext
    rw [h]
    cases firstE (nextE m) 0 m.Lanes <;> rfl
end Go.Abs.Roads

namespace Go.Abs.Roads
open Go Go.Abs

/-- The place of the first element with a property. -/
theorem index_loop {α : Type} {f : Int → Option (Stp Int (Sum Unit Int))} (l : List α) (P : α → Bool) (hl : l.length ≤ 1000000000) (hf : ∀ (i : Nat) a, l[i]? = some a → f (i : Int) = some (if P a then .out (.inr (i : Int)) else .go (w64 ((i : Int) + 1)))) (he : f (l.length : Int) = some (.out (.inl ()))) :
    loop f 0 = some (match l.findIdx? P with | some i => .inr (i : Int) | none => .inl ()) := by
  have key : ∀ (r : List α) (i : Nat), l.drop i = r → i ≤ l.length → loop f (i : Int) = some (match r.findIdx? P with | some j => .inr ((i + j : Nat) : Int) | none => .inl ()) := by
    intro r
    induction r with
    | nil =>
      intro i hi hil
      have := drop_nil hi
      obtain rfl : i = l.length := by omega
      rw [loop_out he]; rfl
    | cons a r ih =>
      intro i hi _
      have hlt := drop_lt hi
      have h0 : l[i]? = some a := by have := congrArg (fun z => z[0]?) hi; simpa using this
      have hs := hf i a h0
      rw [List.findIdx?_cons]
      by_cases hp : P a = true
      · rw [if_pos hp] at hs
        rw [loop_out hs, if_pos hp]; simp
      · rw [if_neg hp] at hs
        rw [w64_id (by omega)] at hs
        rw [loop_go hs, show ((i : Int) + 1) = ((i + 1 : Nat) : Int) by omega, ih (i + 1) (drop_succ hi) (by omega), if_neg hp]
        cases r.findIdx? P with
        | none => rfl
        | some j => simp only [Option.map_some]; congr 3; omega
  have := key l 0 rfl (by omega)
  rw [show ((0 : Nat) : Int) = 0 from rfl] at this
  rw [this]
  cases l.findIdx? P <;> simp
/-- -1, or the place. -/
def idxI {α : Type} (P : α → Bool) (l : List α) : Int := match l.findIdx? P with | some i => (i : Int) | none => -1
theorem idxI_any {α : Type} (P : α → Bool) (l : List α) : decide (idxI P l ≥ 0) = l.any P := by
  unfold idxI
  cases h : l.findIdx? P with
  | none =>
    have := List.findIdx?_eq_none_iff.1 h
    rw [show l.any P = false by rw [List.any_eq_false]; intro x hx; simpa using this x hx]
    decide
  | some i =>
    have := List.findIdx?_isSome (xs := l) (p := P)
    rw [h] at this
    rw [← this]
    simp
/-- What both twins compute of a list. -/
theorem index_eq {α : Type} {f : Int → Option (Stp Int (Sum Unit Int))} (l : List α) (P : α → Bool) (hl : l.length ≤ 1000000000) (hf : ∀ (i : Nat) a, l[i]? = some a → f (i : Int) = some (if P a then .out (.inr (i : Int)) else .go (w64 ((i : Int) + 1)))) (he : f (l.length : Int) = some (.out (.inl ()))) :
    thenS (loop f 0) (fun _ => some (-1)) (fun r => some r) = some (idxI P l) := by
  rw [index_loop l P hl hf he]
  unfold idxI
  cases l.findIdx? P <;> rfl
end Go.Abs.Roads

namespace Go.Abs.Roads
open Go Go.Abs
theorem ticks_any (l : List Phase) (hl : l.length ≤ 1000000) : slices_ContainsFunc_Phase_Phase_roads_check_signals_1 l = some (l.any fun p => !inR p.Ticks 1 10000) := by
  unfold slices_ContainsFunc_Phase_Phase_roads_check_signals_1 slices_IndexFunc_Phase_Phase_roads_check_signals_1
  rw [index_eq l (fun p => !inR p.Ticks 1 10000) (by omega) (fun i a h => by
    have := lt_get h
    unfold slices_IndexFunc_Phase_Phase_roads_check_signals_1_l1 roads_check_signals_1
    rw [show decide ((i : Int) < (l.length : Int)) = true from decide_eq_true (by omega), geti_get h, cond_true, Option.bind_some, within_eq, Option.bind_some, Option.bind_some]
    cases inR a.Ticks 1 10000 <;> rfl) (by
    unfold slices_IndexFunc_Phase_Phase_roads_check_signals_1_l1
    simp)]
  rw [Option.bind_some, idxI_any]
theorem greens_any (m : Map) (l : List Phase) (hl : l.length ≤ 1000000) (hm : m.Lanes.length ≤ 1000000) (hg : ∀ p ∈ l, p.Green.length ≤ 1000000) : slices_ContainsFunc_Phase_Phase_roads_check_signals_2b l ⟨m⟩ = some (l.any fun p => !riseM m.Lanes.length 0 p.Green) := by
  unfold slices_ContainsFunc_Phase_Phase_roads_check_signals_2b slices_IndexFunc_Phase_Phase_roads_check_signals_2b
  rw [index_eq l (fun p => !riseM m.Lanes.length 0 p.Green) (by omega) (fun i a h => by
    have := lt_get h
    unfold slices_IndexFunc_Phase_Phase_roads_check_signals_2b_l1 roads_check_signals_2_b
    dsimp only
    rw [show decide ((i : Int) < (l.length : Int)) = true from decide_eq_true (by omega), geti_get h, cond_true, Option.bind_some, rising_eq _ _ _ (hg a (List.mem_of_getElem? h)) (by omega) (by omega), Option.bind_some, Option.bind_some]
    cases riseM (m.Lanes.length : Int) 0 a.Green <;> rfl) (by
    unfold slices_IndexFunc_Phase_Phase_roads_check_signals_2b_l1
    simp)]
  rw [Option.bind_some, idxI_any]
end Go.Abs.Roads

namespace Go.Abs.Roads
open Go Go.Abs
structure BearS (m : Map) : Prop where
  many : m.Signals.length ≤ 1000000
  phases : ∀ s ∈ m.Signals, s.Phases.length ≤ 1000000 ∧ ∀ p ∈ s.Phases, p.Green.length ≤ 1000000
def signalE (m : Map) (_ : Nat) (s : Signal) : Option Int :=
  if s.Phases.length = 0 then some 6
  else if 6 < s.Phases.length then some 8
  else if inR s.Offset 0 1099511627776 = false then some 2
  else if (s.Phases.any fun p => !inR p.Ticks 1 10000) = true then some 2
  else if (s.Phases.any fun p => !riseM m.Lanes.length 0 p.Green) = true then some 11 else none
theorem signals_eq {m : Map} (B : Bear m) (S : BearS m) : roads_check_signals ⟨m⟩ = some ((firstE (signalE m) 0 m.Signals).getD 0) := by
  have h := each_loop m.Signals (roads_check_signals_l1 ⟨m⟩) (signalE m) (fun i s hs => by
    have hi := lt_get hs
    have hb := S.many
    obtain ⟨p1, p2⟩ := S.phases s (List.mem_of_getElem? hs)
    unfold roads_check_signals_l1 signalE
    dsimp only
    rw [show decide ((i : Int) < (m.Signals.length : Int)) = true from decide_eq_true (by omega), geti_get hs, cond_true, Option.bind_some, within_eq, Option.bind_some, ticks_any _ p1, Option.bind_some, greens_any m _ p1 B.lanes p2, Option.bind_some, wid (n := (i : Int) + 1) (by omega)]
    by_cases h1 : s.Phases.length = 0
    · rw [if_pos h1, h1]; rfl
    · rw [if_neg h1, show ((s.Phases.length : Int) == 0) = false by simp only [beq_eq_false_iff_ne]; omega, cond_false]
      by_cases h2 : 6 < s.Phases.length
      · rw [if_pos h2, show decide ((s.Phases.length : Int) > 6) = true from decide_eq_true (by omega)]; rfl
      · rw [if_neg h2, show decide ((s.Phases.length : Int) > 6) = false from decide_eq_false (by omega), cond_false]
        cases inR s.Offset 0 1099511627776
        · rfl
        · cases (s.Phases.any fun p => !inR p.Ticks 1 10000)
          · cases (s.Phases.any fun p => !riseM m.Lanes.length 0 p.Green) <;> rfl
          · rfl) (by
    unfold roads_check_signals_l1
    dsimp only
    rw [show decide ((m.Signals.length : Int) < (m.Signals.length : Int)) = false from decide_eq_false (by omega)]; rfl)
  unfold roads_check_signals
  rw [h]
  cases firstE (signalE m) 0 m.Signals <;> rfl
end Go.Abs.Roads

namespace Go.Abs.Roads
open Go Go.Abs
end Go.Abs.Roads

namespace Go.Abs.Roads
open Go Go.Abs
end Go.Abs.Roads

/-! Loops over lists, as functions on lists. -/
namespace Go.Abs
open Go
section
variable {α β σ S τ : Type}
/-- What a loop over a list makes, with a state, and with a way out. -/
def gfold (step : Nat → σ → α → Sum σ τ) (fin : σ → τ) : Nat → σ → List α → τ
  | _, s, [] => fin s
  | i, s, a :: r => match step i s a with
    | .inl s' => gfold step fin (i + 1) s' r
    | .inr t => t
theorem get_drop {l : List α} {i : Nat} {a : α} {r : List α} (h : l.drop i = a :: r) : l[i]? = some a := by
  have := congrArg (fun z => z[0]?) h
  simpa using this
theorem gloop {F : S → Option (Stp S τ)} (pk : Nat → σ → S) (l : List α) (inv : Nat → σ → Prop) (step : Nat → σ → α → Sum σ τ) (fin : σ → τ) {s0 : σ} {S0 : S} (hS : pk 0 s0 = S0) (hi : inv 0 s0)
    (hF : ∀ i a s, l[i]? = some a → inv i s → F (pk i s) = some (match step i s a with | .inl s' => .go (pk (i + 1) s') | .inr t => .out t))
    (hI : ∀ i a s s', l[i]? = some a → inv i s → step i s a = .inl s' → inv (i + 1) s')
    (h0 : ∀ s, inv l.length s → F (pk l.length s) = some (.out (fin s))) : loop F S0 = some (gfold step fin 0 s0 l) := by
  have key : ∀ (r : List α) (i : Nat) (s : σ), l.drop i = r → i ≤ l.length → inv i s → loop F (pk i s) = some (gfold step fin i s r) := by
    intro r
    induction r with
    | nil =>
      intro i s hi hil hv
      have := drop_nil hi
      obtain rfl : i = l.length := by omega
      exact loop_out (h0 s hv)
    | cons a r ih =>
      intro i s hi hil hv
      have hlt := drop_lt hi
      have ha := get_drop hi
      have hs := hF i a s ha hv
      unfold gfold
      cases h : step i s a with
      | inl s' => rw [h] at hs; rw [loop_go hs]; exact ih (i + 1) s' (drop_succ hi) (by omega) (hI i a s s' ha hv h)
      | inr t => rw [h] at hs; exact loop_out hs
  rw [← hS]
  exact key l 0 s0 rfl (by omega) hi
/-- The same without a way out. -/
def ifold (step : Nat → σ → α → σ) : Nat → σ → List α → σ
  | _, s, [] => s
  | i, s, a :: r => ifold step (i + 1) (step i s a) r
theorem gfold_ifold (step : Nat → σ → α → σ) (fin : σ → τ) : ∀ (l : List α) (i : Nat) (s : σ), gfold (fun i s a => .inl (step i s a)) fin i s l = fin (ifold step i s l)
  | [], _, _ => rfl
  | _ :: r, i, _ => gfold_ifold step fin r (i + 1) _
theorem floop {F : S → Option (Stp S τ)} (pk : Nat → σ → S) (l : List α) (inv : Nat → σ → Prop) (step : Nat → σ → α → σ) (fin : σ → τ) {s0 : σ} {S0 : S} (hS : pk 0 s0 = S0) (hi : inv 0 s0)
    (hF : ∀ i a s, l[i]? = some a → inv i s → F (pk i s) = some (.go (pk (i + 1) (step i s a))))
    (hI : ∀ i a s, l[i]? = some a → inv i s → inv (i + 1) (step i s a))
    (h0 : ∀ s, inv l.length s → F (pk l.length s) = some (.out (fin s))) : loop F S0 = some (fin (ifold step 0 s0 l)) := by
  rw [← gfold_ifold step fin]
  exact gloop pk l inv _ fin hS hi hF (fun i a s s' h1 h2 h3 => by cases h3; exact hI i a s h1 h2) h0
/-- The elements that a loop gathers. -/
def pickI (g : Nat → α → Option β) : Nat → List α → List β
  | _, [] => []
  | i, a :: r => match g i a with
    | some b => b :: pickI g (i + 1) r
    | none => pickI g (i + 1) r
theorem ifold_pick (g : Nat → α → Option β) : ∀ (l : List α) (i : Nat) (s : List β), ifold (fun i s a => match g i a with | some b => s ++ [b] | none => s) i s l = s ++ pickI g i l
  | [], _, s => by simp [ifold, pickI]
  | a :: r, i, s => by
    unfold ifold pickI
    rw [ifold_pick g r (i + 1)]
    cases g i a <;> simp
theorem ploop {F : S → Option (Stp S τ)} (pk : Nat → List β → S) (l : List α) (g : Nat → α → Option β) (fin : List β → τ) {S0 : S} (hS : pk 0 [] = S0)
    (hF : ∀ i a (s : List β), l[i]? = some a → s.length ≤ i → F (pk i s) = some (.go (pk (i + 1) (match g i a with | some b => s ++ [b] | none => s))))
    (h0 : ∀ s, F (pk l.length s) = some (.out (fin s))) : loop F S0 = some (fin (pickI g 0 l)) := by
  have := floop pk l (fun i s => s.length ≤ i) (fun i s a => match g i a with | some b => s ++ [b] | none => s) fin hS (by simp) hF (fun i a s _ hs => by
    cases g i a <;> simp <;> omega) (fun s _ => h0 s)
  rw [this, ifold_pick, List.nil_append]
theorem floop2 {F : σ × Int → Option (Stp (σ × Int) τ)} (l : List α) (step : Nat → σ → α → σ) (fin : σ → τ) (s0 : σ)
    (hF : ∀ (i : Nat) a s, l[i]? = some a → F (s, (i : Int)) = some (.go (step i s a, ((i + 1 : Nat) : Int))))
    (h0 : ∀ s, F (s, (l.length : Int)) = some (.out (fin s))) : loop F (s0, 0) = some (fin (ifold step 0 s0 l)) :=
  floop (fun i s => (s, (i : Int))) l (fun _ _ => True) step fin rfl trivial (fun i a s h _ => hF i a s h) (fun _ _ _ _ _ => trivial) (fun s _ => h0 s)
/-- Is there one? -/
theorem aloop {F : Int → Option (Stp Int (Sum Unit β))} (l : List α) (p : α → Bool) (v : β) (hF : ∀ (i : Nat) a, l[i]? = some a → F (i : Int) = some (if p a then .out (.inr v) else .go ((i + 1 : Nat) : Int))) (h0 : F (l.length : Int) = some (.out (.inl ()))) :
    loop F 0 = some (if l.any p then .inr v else .inl ()) := by
  have key : ∀ (l : List α) (i : Nat), gfold (fun _ _ a => if p a then Sum.inr (Sum.inr v) else Sum.inl ()) (fun _ => (Sum.inl () : Sum Unit β)) i () l = if l.any p then .inr v else .inl () := by
    intro l
    induction l with
    | nil => intro i; rfl
    | cons a r ih =>
      intro i
      unfold gfold
      rw [List.any_cons]
      cases h : p a
      · exact ih (i + 1)
      · rfl
  rw [← key l 0]
  exact gloop (F := F) (σ := Unit) (fun i _ => (i : Int)) l (fun _ _ => True) _ _ (s0 := ()) rfl trivial (fun i a _ h _ => by rw [hF i a h]; cases p a <;> rfl) (fun _ _ _ _ _ _ _ => trivial) (fun _ _ => h0)
end
theorem lt_dec {i : Nat} {n : Nat} (h : i < n) : decide ((i : Int) < (n : Int)) = true := decide_eq_true (by omega)
theorem nlt_dec (n : Nat) : decide ((n : Int) < (n : Int)) = false := decide_eq_false (by omega)
theorem w64_succ {i : Nat} {n : Nat} (h : i < n) (hn : n ≤ 1000000000000) : w64 ((i : Int) + 1) = ((i + 1 : Nat) : Int) := by rw [w64_id (by omega)]; omega
end Go.Abs

namespace Go.Abs.Roads
open Go Go.Abs
structure BearZ (m : Map) : Prop where
  many : m.Zones.length ≤ 1000000
  parts : ∀ z ∈ m.Zones, z.Parts.length ≤ 1000000
noncomputable def laneLen (m : Map) (k : Int) : Int := ((m.Lanes[k.toNat]?).map fun l => lenM l.Curve_).getD 0
noncomputable def partBad (m : Map) (p : Part) : Bool := decide (p.From < 0) || decide (p.From ≥ p.To) || decide (p.To > laneLen m p.Lane_) || decide (p.Rank < 0) || decide (p.Rank > 100)
noncomputable def zoneE (m : Map) (_ : Nat) (z : Zone) : Option Int :=
  if z.Parts.length < 2 then some 6
  else if 6 < z.Parts.length then some 8
  else if z.Signal_ < 0 ∨ (m.Signals.length : Int) < z.Signal_ then some 2
  else if riseM m.Lanes.length 0 (z.Parts.map (·.Lane_)) = false then some 11
  else if z.Parts.any (partBad m) = true then some 2 else none
theorem lane_of {m : Map} {k : Int} (h0 : 0 ≤ k) (h1 : k < m.Lanes.length) : ∃ l, m.Lanes[k.toNat]? = some l ∧ geti m.Lanes k = some l := by
  have hlt : k.toNat < m.Lanes.length := by omega
  refine ⟨m.Lanes[k.toNat], List.getElem?_eq_getElem hlt, ?_⟩
  unfold geti
  rw [if_pos h0, List.getElem?_eq_getElem hlt]
theorem long_at {m : Map} (B : Bear m) {k : Int} (h0 : 0 ≤ k) (h1 : k < m.Lanes.length) : roads_long m k = some (laneLen m k) := by
  obtain ⟨l, e1, e2⟩ := lane_of h0 h1
  have := long_eq (m := m) e1 (B.pts l (List.mem_of_getElem? e1)).1
  rw [show ((k.toNat : Nat) : Int) = k by omega] at this
  rw [this, laneLen, e1]; rfl
theorem pick_map {α β : Type} (f : α → β) : ∀ (l : List α) (i : Nat), pickI (fun _ a => some (f a)) i l = l.map f
  | [], _ => rfl
  | a :: r, i => by rw [pickI, pick_map f r]; rfl
theorem zlanes {z : Zone} {F : List Int × Int → Option (Stp (List Int × Int) (List Int))} (hl : z.Parts.length ≤ 1000000)
    (hF : ∀ x, F x = cond (decide (x.2 < (z.Parts.length : Int))) ((geti z.Parts x.2).bind fun v => (appc x.1 [v.Lane_]).bind fun w => some (.go (w, w64 (x.2 + 1)))) (some (.out x.1))) :
    loop F ([], 0) = some (z.Parts.map (·.Lane_)) := by
  rw [← pick_map (fun p : Part => p.Lane_) z.Parts 0]
  refine ploop (fun i s => (s, (i : Int))) z.Parts (fun _ p => some p.Lane_) id rfl (fun i a s ha hs => ?_) (fun s => ?_)
  · have hi := lt_get ha
    rw [hF, lt_dec hi, geti_get ha, cond_true, Option.bind_some, appc_ok (by simp; omega), Option.bind_some, w64_succ hi (by omega)]
  · rw [hF, nlt_dec]; rfl
theorem zones_eq {m : Map} (B : Bear m) (Z : BearZ m) : roads_check_zones ⟨m⟩ = some ((firstE (zoneE m) 0 m.Zones).getD 0) := by
  have hb := B.lanes
  have h := each_loop m.Zones (roads_check_zones_l1 ⟨m⟩) (zoneE m) (fun i z hz => by
    have hi := lt_get hz
    have hm := Z.many
    have p1 := Z.parts z (List.mem_of_getElem? hz)
    unfold roads_check_zones_l1 zoneE
    dsimp only
    rw [lt_dec hi, geti_get hz, cond_true, Option.bind_some, zlanes p1 (F := roads_check_zones_l2 z) (fun x => rfl), Option.bind_some, rising_eq _ _ _ (by simpa using p1) (by omega) (by omega), Option.bind_some, w64_succ hi (by omega)]
    by_cases h1 : z.Parts.length < 2
    · rw [if_pos h1, show decide ((z.Parts.length : Int) < 2) = true from decide_eq_true (by omega)]; rfl
    · rw [if_neg h1, show decide ((z.Parts.length : Int) < 2) = false from decide_eq_false (by omega), cond_false]
      by_cases h2 : 6 < z.Parts.length
      · rw [if_pos h2, show decide ((z.Parts.length : Int) > 6) = true from decide_eq_true (by omega)]; rfl
      · rw [if_neg h2, show decide ((z.Parts.length : Int) > 6) = false from decide_eq_false (by omega), cond_false]
        by_cases h3 : z.Signal_ < 0 ∨ (m.Signals.length : Int) < z.Signal_
        · rw [if_pos h3, show ((decide (z.Signal_ < 0)) || (decide (z.Signal_ > (m.Signals.length : Int)))) = true by simpa using h3]; rfl
        · rw [if_neg h3, show ((decide (z.Signal_ < 0)) || (decide (z.Signal_ > (m.Signals.length : Int)))) = false by rw [Bool.eq_false_iff]; simpa using h3, cond_false]
          cases h4 : riseM (m.Lanes.length : Int) 0 (z.Parts.map (·.Lane_))
          · rfl
          · rw [if_neg (by decide)]
            have := aloop (F := roads_check_zones_l3 ⟨m⟩ z) z.Parts (partBad m) (2 : Int) (fun j p hp => by
              have hj := lt_get hp
              have hk := riseM_mem h4 p.Lane_ (List.mem_map.2 ⟨p, List.mem_of_getElem? hp, rfl⟩)
              unfold roads_check_zones_l3 partBad
              dsimp only
              rw [lt_dec hj, geti_get hp, cond_true, Option.bind_some, long_at B hk.1 hk.2, w64_succ hj (by omega)]
              cases h5 : (decide (p.From < 0) || decide (p.From ≥ p.To))
              · simp only [Bool.not_false, cond_true, Option.bind_some]
                cases (false || decide (p.To > laneLen m p.Lane_) || decide (p.Rank < 0) || decide (p.Rank > 100)) <;> rfl
              · rfl) (by unfold roads_check_zones_l3; rw [nlt_dec]; rfl)
            rw [this]
            cases z.Parts.any (partBad m) <;> rfl) (by
    unfold roads_check_zones_l1
    dsimp only
    rw [nlt_dec]; rfl)
  unfold roads_check_zones
  rw [h]
  cases firstE (zoneE m) 0 m.Zones <;> rfl
end Go.Abs.Roads

namespace Go.Abs.Roads
open Go Go.Abs
structure BearW (m : Map) : Prop where
  many : m.Works.length ≤ 1000000
noncomputable def workE (m : Map) (_ : Nat) (w : Work) : Option Int :=
  if w.Lane_ < 0 ∨ (m.Lanes.length : Int) ≤ w.Lane_ then some 7
  else if (decide (w.From < 0) || decide (w.From > w.To) || decide (w.To > laneLen m w.Lane_) || decide (w.Begin < 0) || decide (w.Begin ≥ w.End) || decide (w.End > 1099511627776) || !inR w.Limit 0 ((m.Lanes[w.Lane_.toNat]?).map fun l => (topM l.Kind).1).get!) = true then some 2 else none
theorem works_eq {m : Map} (B : Bear m) (W : BearW m) : roads_check_works ⟨m⟩ = some ((firstE (workE m) 0 m.Works).getD 0) := by
  have hb := B.lanes
  have h := each_loop m.Works (roads_check_works_l1 ⟨m⟩) (workE m) (fun i w hw => by
    have hi := lt_get hw
    have hm := W.many
    unfold roads_check_works_l1 workE
    dsimp only
    rw [lt_dec hi, geti_get hw, cond_true, Option.bind_some, w64_succ hi (by omega)]
    by_cases h1 : w.Lane_ < 0 ∨ (m.Lanes.length : Int) ≤ w.Lane_
    · rw [if_pos h1, show ((decide (w.Lane_ < 0)) || (decide (w.Lane_ ≥ (m.Lanes.length : Int)))) = true by simpa using h1]; rfl
    · rw [if_neg h1, show ((decide (w.Lane_ < 0)) || (decide (w.Lane_ ≥ (m.Lanes.length : Int)))) = false by rw [Bool.eq_false_iff]; simpa using h1, cond_false]
      obtain ⟨l, e1, e2⟩ := lane_of (m := m) (k := w.Lane_) (by omega) (by omega)
      rw [e2, Option.bind_some, Bounds_eq, Option.bind_some, long_at B (by omega) (by omega), within_eq, e1]
      simp only [Option.map_some, Option.get!_some]
      cases (decide (w.From < 0) || decide (w.From > w.To))
      · simp only [Bool.not_false, cond_true, Option.bind_some]
        cases (false || decide (w.To > laneLen m w.Lane_) || decide (w.Begin < 0) || decide (w.Begin ≥ w.End) || decide (w.End > 1099511627776))
        · simp only [Bool.not_false, cond_true, Option.bind_some]
          by_cases hq : inR w.Limit 0 (topM l.Kind).1 = true <;> simp [hq]
        · rfl
      · rfl) (by
    unfold roads_check_works_l1
    dsimp only
    rw [nlt_dec]; rfl)
  unfold roads_check_works
  rw [h]
  cases firstE (workE m) 0 m.Works <;> rfl
end Go.Abs.Roads

namespace Go.Abs.Roads
open Go Go.Abs
/-- All lists of a map are of bearable lengths. -/
structure BearM (m : Map) : Prop where
  toBear : Bear m
  toBearS : BearS m
  toBearZ : BearZ m
  toBearW : BearW m
theorem BearM.lanes {m : Map} (B : BearM m) : m.Lanes.length ≤ 1000000 := B.toBear.lanes
noncomputable def chkR (m : Map) : Int :=
  if inR m.Version 0 1099511627776 = false then 2
  else if m.Lanes.length = 0 then 6
  else if 12 < m.Lanes.length ∨ 12 < m.Zones.length ∨ 4 < m.Signals.length ∨ 8 < m.Works.length then 8
  else ((firstE (laneE m.Lanes.length) 0 m.Lanes).or ((firstE (nextE m) 0 m.Lanes).or ((firstE (signalE m) 0 m.Signals).or ((firstE (zoneE m) 0 m.Zones).or (firstE (workE m) 0 m.Works))))).getD 0
theorem firstE_ne {α : Type} {g : Nat → α → Option Int} (h : ∀ i a e, g i a = some e → e ≠ 0) : ∀ {l : List α} {i : Nat} {e : Int}, firstE g i l = some e → e ≠ 0
  | [], _, _, q => by cases q
  | a :: r, i, e, q => by
    unfold firstE at q
    cases hg : g i a with
    | some e' => rw [hg] at q; cases q; exact h i a e hg
    | none => rw [hg] at q; exact firstE_ne h q
theorem zoneE_ne {m : Map} {i : Nat} {z : Zone} {e : Int} (h : zoneE m i z = some e) : e ≠ 0 := by
  unfold zoneE at h
  repeat' split at h
  all_goals first | (cases h; decide) | cases h
theorem signalE_ne {m : Map} {i : Nat} {z : Signal} {e : Int} (h : signalE m i z = some e) : e ≠ 0 := by
  unfold signalE at h
  repeat' split at h
  all_goals first | (cases h; decide) | cases h
theorem workE_ne {m : Map} {i : Nat} {z : Work} {e : Int} (h : workE m i z = some e) : e ≠ 0 := by
  unfold workE at h
  repeat' split at h
  all_goals first | (cases h; decide) | cases h
theorem nextE_ne {m : Map} {i : Nat} {z : Lane} {e : Int} (h : nextE m i z = some e) : e ≠ 0 := firstE_ne (fun _ _ _ => jointE_ne) h
theorem roads_Check_eq {m : Map} (B : BearM m) : roads_Check m = some (chkR m) := by
  have hb := B.lanes
  have s0 : roads_Check_l1 m 0 = (roads_check_numbers ⟨m⟩).bind fun v2 => cond (v2 != 0) (some (.out (.inr v2))) (some (.go 1)) := rfl
  have s1 : roads_Check_l1 m 1 = (roads_check_lanes ⟨m⟩).bind fun v2 => cond (v2 != 0) (some (.out (.inr v2))) (some (.go 2)) := rfl
  have s2 : roads_Check_l1 m 2 = (roads_check_joints ⟨m⟩).bind fun v2 => cond (v2 != 0) (some (.out (.inr v2))) (some (.go 3)) := rfl
  have s3 : roads_Check_l1 m 3 = (roads_check_signals ⟨m⟩).bind fun v2 => cond (v2 != 0) (some (.out (.inr v2))) (some (.go 4)) := rfl
  have s4 : roads_Check_l1 m 4 = (roads_check_zones ⟨m⟩).bind fun v2 => cond (v2 != 0) (some (.out (.inr v2))) (some (.go 5)) := rfl
  have s5 : roads_Check_l1 m 5 = (roads_check_works ⟨m⟩).bind fun v2 => cond (v2 != 0) (some (.out (.inr v2))) (some (.go 6)) := rfl
  have s6 : roads_Check_l1 m 6 = some (.out (.inl ())) := rfl
  have stp : ∀ (i j : Int) (e : Option Int) (X : Option Int), (∀ e', e = some e' → e' ≠ 0) → X = some (e.getD 0) → roads_Check_l1 m i = X.bind (fun v2 => cond (v2 != 0) (some (.out (.inr v2))) (some (.go j))) → loop (roads_Check_l1 m) i = match e with | some e' => some (.inr e') | none => loop (roads_Check_l1 m) j := by
    intro i j e X he hX hs
    subst hX
    rw [Option.bind_some] at hs
    cases e with
    | none => exact loop_go hs
    | some e' =>
      rw [Option.getD_some, show (e' != 0) = true by simpa using he e' rfl] at hs
      exact loop_out hs
  unfold roads_Check chkR
  have hnum : roads_check_numbers ⟨m⟩ = some ((if inR m.Version 0 1099511627776 = false then some 2 else if m.Lanes.length = 0 then some 6 else if 12 < m.Lanes.length ∨ 12 < m.Zones.length ∨ 4 < m.Signals.length ∨ 8 < m.Works.length then some 8 else none : Option Int).getD 0) := by
    unfold roads_check_numbers
    dsimp only
    rw [within_eq, Option.bind_some]
    cases inR m.Version 0 1099511627776
    · rfl
    · simp only [Bool.not_true, cond_false, Bool.true_eq_false, if_false]
      by_cases h1 : m.Lanes.length = 0
      · rw [if_pos h1, h1]; rfl
      · rw [if_neg h1, show ((m.Lanes.length : Int) == 0) = false by simp only [beq_eq_false_iff_ne]; omega, cond_false]
        by_cases h2 : 12 < m.Lanes.length ∨ 12 < m.Zones.length ∨ 4 < m.Signals.length ∨ 8 < m.Works.length
        · rw [if_pos h2, show ((((decide ((m.Lanes.length : Int) > 12)) || (decide ((m.Zones.length : Int) > 12))) || (decide ((m.Signals.length : Int) > 4))) || (decide ((m.Works.length : Int) > 8))) = true by simp; omega]; rfl
        · rw [if_neg h2, show ((((decide ((m.Lanes.length : Int) > 12)) || (decide ((m.Zones.length : Int) > 12))) || (decide ((m.Signals.length : Int) > 4))) || (decide ((m.Works.length : Int) > 8))) = false by simp; omega]; rfl
  rw [stp 0 1 _ _ (by repeat' split
                      all_goals (intro e' h; first | (cases h; decide) | cases h)) hnum s0]
  by_cases q1 : inR m.Version 0 1099511627776 = false
  · rw [if_pos q1, if_pos q1]; rfl
  · rw [if_neg q1, if_neg q1]
    by_cases q2 : m.Lanes.length = 0
    · rw [if_pos q2, if_pos q2]; rfl
    · rw [if_neg q2, if_neg q2]
      by_cases q3 : 12 < m.Lanes.length ∨ 12 < m.Zones.length ∨ 4 < m.Signals.length ∨ 8 < m.Works.length
      · rw [if_pos q3, if_pos q3]; rfl
      · rw [if_neg q3, if_neg q3]
        dsimp only
        rw [stp 1 2 _ _ (fun e' h => firstE_ne (fun _ _ _ => laneE_ne) h) (lanes_eq B.toBear) s1]
        cases H : firstE (laneE m.Lanes.length) 0 m.Lanes with
        | some e => rfl
        | none =>
          dsimp only
          rw [stp 2 3 _ _ (fun e' h => firstE_ne (fun _ _ _ => nextE_ne) h) (joints_eq B.toBear H).1 s2]
          cases firstE (nextE m) 0 m.Lanes with
          | some e => rfl
          | none =>
            dsimp only
            rw [stp 3 4 _ _ (fun e' h => firstE_ne (fun _ _ _ => signalE_ne) h) (signals_eq B.toBear B.toBearS) s3]
            cases firstE (signalE m) 0 m.Signals with
            | some e => rfl
            | none =>
              dsimp only
              rw [stp 4 5 _ _ (fun e' h => firstE_ne (fun _ _ _ => zoneE_ne) h) (zones_eq B.toBear B.toBearZ) s4]
              cases firstE (zoneE m) 0 m.Zones with
              | some e => rfl
              | none =>
                dsimp only
                rw [stp 5 6 _ _ (fun e' h => firstE_ne (fun _ _ _ => workE_ne) h) (works_eq B.toBear B.toBearW) s5]
                cases firstE (workE m) 0 m.Works with
                | some e => rfl
                | none => dsimp only; rw [loop_out s6]; rfl
end Go.Abs.Roads

namespace Go.Abs.Roads
open Go Go.Abs
/-- What a valid map is. -/
structure ValR (m : Map) : Prop where
  ver : 0 ≤ m.Version ∧ m.Version ≤ 1099511627776
  pos : 0 < m.Lanes.length
  lanes : m.Lanes.length ≤ 12
  zones : m.Zones.length ≤ 12
  signals : m.Signals.length ≤ 4
  works : m.Works.length ≤ 8
  laneE : firstE (laneE m.Lanes.length) 0 m.Lanes = none
  nextE : firstE (nextE m) 0 m.Lanes = none
  signalE : firstE (signalE m) 0 m.Signals = none
  zoneE : firstE (zoneE m) 0 m.Zones = none
  workE : firstE (workE m) 0 m.Works = none
theorem getD_none {α : Type} {g : Nat → α → Option Int} {l : List α} (h : ∀ i a e, g i a = some e → e ≠ 0) (h0 : (firstE g 0 l).getD 0 = 0) : firstE g 0 l = none := by
  cases q : firstE g 0 l with
  | none => rfl
  | some e => rw [q] at h0; exact absurd h0 (firstE_ne h q)
theorem chkR_zero {m : Map} : chkR m = 0 ↔ ValR m := by
  unfold chkR
  constructor
  · intro h
    split at h
    · cases h
    · rename_i h1
      split at h
      · cases h
      · rename_i h2
        split at h
        · cases h
        · rename_i h3
          simp only [inR, Bool.not_eq_false, Bool.and_eq_true, decide_eq_true_eq] at h1
          have key : ∀ {o r : Option Int}, (∀ e, o = some e → e ≠ 0) → (o.or r).getD 0 = 0 → o = none ∧ r.getD 0 = 0 := by
            intro o r ho hr
            cases o with
            | none => exact ⟨rfl, hr⟩
            | some e => exact absurd hr (ho e rfl)
          obtain ⟨a1, h⟩ := key (fun e h => firstE_ne (fun _ _ _ => laneE_ne) h) h
          obtain ⟨a2, h⟩ := key (fun e h => firstE_ne (fun _ _ _ => nextE_ne) h) h
          obtain ⟨a3, h⟩ := key (fun e h => firstE_ne (fun _ _ _ => signalE_ne) h) h
          obtain ⟨a4, h⟩ := key (fun e h => firstE_ne (fun _ _ _ => zoneE_ne) h) h
          exact ⟨h1, by omega, by omega, by omega, by omega, by omega, a1, a2, a3, a4, getD_none (fun _ _ _ => workE_ne) h⟩
  · rintro ⟨h1, h2, h3, h4, h5, h6, a1, a2, a3, a4, a5⟩
    rw [if_neg (by simp only [inR, Bool.not_eq_false, Bool.and_eq_true, decide_eq_true_eq]; exact h1), if_neg (by omega), if_neg (by omega), a1, a2, a3, a4, a5]; rfl
section
variable {m : Map}
theorem ValR.laneOK (V : ValR m) {i : Nat} {l : Lane} (h : m.Lanes[i]? = some l) : LaneOK m.Lanes.length i l := lanes_ok V.laneE h
theorem ValR.next (V : ValR m) {i : Nat} {l : Lane} (h : m.Lanes[i]? = some l) {k : Int} (hk : k ∈ l.Next) : (i : Int) < k ∧ k < m.Lanes.length := by
  have := riseM_mem (V.laneOK h).next k hk
  omega
end
/-- The lanes in which a lane goes on. -/
def nextOf (m : Map) (a : Nat) : List Int := ((m.Lanes[a]?).map (·.Next)).getD []
theorem ValR.nextOf {m : Map} (V : ValR m) {a : Nat} {k : Int} (hk : k ∈ Roads.nextOf m a) : (a : Int) < k ∧ k < m.Lanes.length := by
  unfold Roads.nextOf at hk
  cases h : m.Lanes[a]? with
  | none => rw [h] at hk; cases hk
  | some l => rw [h] at hk; exact V.next h hk
def leadsN (m : Map) (b : Int) : Nat → Nat → Bool
  | 0, _ => false
  | n + 1, a => (nextOf m a).any fun k => k == b || leadsN m b n k.toNat
/-- Does a lane lead to another one? -/
def leadsM (m : Map) (a : Nat) (b : Int) : Bool := leadsN m b m.Lanes.length a
end Go.Abs.Roads

namespace Go.Abs.Roads
open Go Go.Abs
/-- What is known of the sets of the lanes from a number on. -/
structure Reach (m : Map) (i : Nat) (l : List Nat) : Prop where
  len : l.length = 12
  small : ∀ (a x : Nat), l[a]? = some x → x < 2 ^ 32
  zero : ∀ (a : Nat), a < i → l[a]? = some 0
  bits : ∀ (a x : Nat), i ≤ a → a < m.Lanes.length → l[a]? = some x → ∀ b : Nat, x.testBit b = leadsM m a (b : Int)
theorem Reach.get {m : Map} {i : Nat} {l : List Nat} (R : Reach m i l) {a : Nat} (h : a < 12) : ∃ x, l[a]? = some x ∧ x < 2 ^ 32 := by
  have := R.len
  exact ⟨l[a], List.getElem?_eq_getElem (by omega), R.small a _ (List.getElem?_eq_getElem (by omega))⟩
end Go.Abs.Roads

namespace Go.Abs.Roads
open Go Go.Abs
noncomputable def isM (m : Map) (k : Int) : Bool := (decide (k ≥ 0) && decide (k < m.Lanes.length)) && (chkR m == 0)
theorem isM_true {m : Map} {k : Int} : isM m k = true ↔ 0 ≤ k ∧ k < m.Lanes.length ∧ ValR m := by
  unfold isM
  rw [Bool.and_eq_true, Bool.and_eq_true, beq_iff_eq, chkR_zero]
  simp only [decide_eq_true_eq, and_assoc, ge_iff_le]
theorem roads_is_eq {m : Map} (B : BearM m) (k : Int) : roads_is m k = some (isM m k) := by
  unfold roads_is isM
  rw [roads_Check_eq B]
  cases (decide (k ≥ 0) && decide (k < (m.Lanes.length : Int))) <;> rfl
noncomputable def lengthM (m : Map) (k : Int) : Int := if isM m k then laneLen m k else 0
theorem roads_Length_eq {m : Map} (B : BearM m) (k : Int) : roads_Length m k = some (lengthM m k) := by
  unfold roads_Length lengthM
  rw [roads_is_eq B, Option.bind_some]
  cases h : isM m k
  · rfl
  · have := isM_true.1 h
    rw [if_pos rfl, Bool.not_true, cond_false, long_at B.toBear this.1 this.2.1]; rfl
end Go.Abs.Roads

namespace Go.Abs.Roads
open Go Go.Abs
structure ZoneOK (m : Map) (z : Zone) : Prop where
  two : 2 ≤ z.Parts.length
  six : z.Parts.length ≤ 6
  sig : 0 ≤ z.Signal_ ∧ z.Signal_ ≤ m.Signals.length
  rise : riseM m.Lanes.length 0 (z.Parts.map (·.Lane_)) = true
  part : ∀ p ∈ z.Parts, 0 ≤ p.From ∧ p.From < p.To ∧ p.To ≤ laneLen m p.Lane_ ∧ 0 ≤ p.Rank ∧ p.Rank ≤ 100
theorem ZoneOK.lane {m : Map} {z : Zone} (O : ZoneOK m z) {p : Part} (hp : p ∈ z.Parts) : 0 ≤ p.Lane_ ∧ p.Lane_ < m.Lanes.length := riseM_mem O.rise p.Lane_ (List.mem_map.2 ⟨p, hp, rfl⟩)
end Go.Abs.Roads

namespace Go.Abs.Roads
open Go Go.Abs
end Go.Abs.Roads

namespace Go.Abs.Roads
open Go Go.Abs
theorem awake_eq : law03_awake = some true := law03_awake_le _ (by decide +kernel)
end Go.Abs.Roads

namespace Go.Abs.Roads
open Go Go.Abs
end Go.Abs.Roads

namespace Go.Abs.Roads
open Go Go.Abs
theorem emod_bd (n : Int) {m : Int} (hm : 0 < m) : 0 ≤ n % m ∧ n % m < m := ⟨Int.emod_nonneg n (by omega), Int.emod_lt_of_pos n hm⟩
theorem tmod_emod {n m : Int} (hm : 0 < m) : n % m = if n.tmod m < 0 then n.tmod m + m else n.tmod m := by
  have a := Int.emod_nonneg n (show m ≠ 0 by omega)
  have b := Int.emod_lt_of_pos n hm
  rw [Int.tmod_eq_emod]
  by_cases q : 0 ≤ n ∨ m ∣ n
  · rw [if_pos q, if_neg (by omega)]; omega
  · rw [if_neg q]
    have : n % m ≠ 0 := fun e => q (.inr (Int.dvd_of_emod_eq_zero e))
    rw [if_pos (by omega)]; omega
theorem kit_Mod_eq {n m : Int} (hm : 0 < m) (hm2 : m ≤ 9223372036854775807) : kit_Mod n m = some (n % m) := by
  have h1 := tmod_emod (n := n) hm
  have a := emod_bd n hm
  unfold kit_Mod remc
  rw [if_neg (by omega), Option.bind_some]
  by_cases q : n.tmod m < 0
  · rw [if_pos q] at h1
    rw [decide_eq_true q, cond_true, w64_id (by omega), ← h1]
  · rw [if_neg q] at h1
    rw [decide_eq_false q, cond_false, ← h1]
theorem kit_Mod64_eq {n m : Int} (hm : 0 < m) (hm2 : m ≤ 9223372036854775807) : kit_Mod64 n m = some (n % m) := by
  have h1 := tmod_emod (n := n) hm
  have a := emod_bd n hm
  unfold kit_Mod64 remc
  rw [if_neg (by omega), Option.bind_some]
  by_cases q : n.tmod m < 0
  · rw [if_pos q] at h1
    rw [decide_eq_true q, cond_true, w64_id (by omega), ← h1]
  · rw [if_neg q] at h1
    rw [decide_eq_false q, cond_false, ← h1]
def lnK (kind lim : Int) (next : List Int) (a b c d : Int) : Lane := ⟨kind, ⟨[⟨a, b⟩, ⟨c, d⟩]⟩, if kind = 3 then 500 else 1500, lim, next⟩
theorem road_eq (kind lim : Int) (next : List Int) (a b c d : Int) : kit_road kind lim next [a, b, c, d] = some (lnK kind lim next a b c d) := by
  unfold kit_road lnK
  rw [loop_go (s' := (2, ⟨kind, ⟨[⟨a, b⟩]⟩, 1500, lim, next⟩)) rfl, loop_go (s' := (4, ⟨kind, ⟨[⟨a, b⟩, ⟨c, d⟩]⟩, 1500, lim, next⟩)) rfl, loop_out (t := ⟨kind, ⟨[⟨a, b⟩, ⟨c, d⟩]⟩, 1500, lim, next⟩) rfl, Option.bind_some]
  by_cases h : kind = 3
  · rw [if_pos h, h]; rfl
  · rw [if_neg h, show (kind == 3) = false by simpa using h]; rfl
def sgK (off a b : Int) : Signal := ⟨off, [⟨12, [a]⟩, ⟨5, []⟩, ⟨9, [b]⟩, ⟨4, []⟩]⟩
/-- The numbers of which a map of the kit is made. -/
structure Par where
  lim : Int
  r : Int
  o : Int
  o' : Int
  ver : Int
  wk : List Work
structure ParOK (p : Par) : Prop where
  lim : p.lim = 1500 ∨ p.lim = 600 ∨ p.lim = 1000 ∨ p.lim = 300
  r : p.r = 0 ∨ p.r = 1
  o : 0 ≤ p.o ∧ p.o < 31
  o' : 0 ≤ p.o' ∧ p.o' < 31
  ver : 0 ≤ p.ver ∧ p.ver < 5
  wk : p.wk = [] ∨ ∃ b l, 0 ≤ b ∧ b < 40 ∧ 0 ≤ l ∧ l ≤ 400 ∧ p.wk = [⟨0, 10000, 15000, b, b + 20, l⟩]
def kLanes (k : Nat) (lim : Int) : List Lane := match k with
  | 0 => [lnK 1 lim [] 0 0 60000 0]
  | 1 | 2 => [lnK 1 lim [] 0 0 50000 0, lnK 1 1500 [] 30000 (-20000) 30000 20000]
  | 3 => [lnK 1 lim [1, 2] 0 0 30000 0, lnK 1 1500 [] 30000 0 60000 0, lnK 1 800 [] 30000 0 54000 10000]
  | 4 => [lnK 1 lim [2] 0 0 30000 0, lnK 1 1500 [2] 6000 (-10000) 30000 0, lnK 1 1500 [] 30000 0 60000 0]
  | 5 => [lnK 1 lim [1] 0 0 20000 0, lnK 1 lim [] 20000 0 50000 0, lnK 3 200 [] 35000 (-8000) 35000 8000]
  | _ => [lnK 1 lim [1, 2] 0 0 20000 0, lnK 1 1500 [] 20000 0 50000 0, lnK 1 1000 [] 20000 0 44000 10000, lnK 2 700 [] 36000 (-12000) 36000 18000]
def kZones (k : Nat) (r : Int) : List Zone := match k with
  | 1 => [⟨[⟨0, 28000, 32000, r⟩, ⟨1, 18000, 22000, 2 - 2 * r⟩], 0⟩]
  | 2 => [⟨[⟨0, 28000, 32000, r⟩, ⟨1, 18000, 22000, 2 - 2 * r⟩], 1⟩]
  | 4 => [⟨[⟨0, 25000, 30000, 1⟩, ⟨1, 20000, 26000, 0⟩, ⟨2, 0, 5000, 0⟩], 0⟩]
  | 5 => [⟨[⟨1, 14000, 16000, 0⟩, ⟨2, 6000, 10000, 3⟩], 0⟩]
  | 6 => [⟨[⟨1, 14000, 18000, 1⟩, ⟨3, 10000, 14000, 0⟩], 0⟩, ⟨[⟨2, 14000, 21000, 1⟩, ⟨3, 14500, 23000, 0⟩], 0⟩]
  | 7 => [⟨[⟨1, 14000, 18000, 1⟩, ⟨3, 10000, 14000, 0⟩], 1⟩, ⟨[⟨2, 14000, 21000, 1⟩, ⟨3, 14500, 23000, 0⟩], 2⟩]
  | _ => []
def kSigs (k : Nat) (o o' : Int) : List Signal := match k with
  | 2 => [sgK o 0 1]
  | 7 => [sgK o 1 3, sgK o' 2 3]
  | _ => []
def kmap (k : Nat) (p : Par) : Map := ⟨p.ver, kLanes k p.lim, kZones k p.r, kSigs k p.o p.o', p.wk⟩
theorem kit_Map_eq (n : Int) : ∃ k p, k < 8 ∧ ParOK p ∧ kit_Map n = some (kmap k p) := by
  obtain ⟨h0, h1⟩ := emod_bd n (show (0 : Int) < 16777216 by decide)
  unfold kit_Map
  rw [kit_Mod_eq (by decide) (by decide), Option.bind_some]
  generalize n % 16777216 = v at h0 h1
  have t : ∀ m : Int, 0 < m → v.tdiv m = v / m := fun m hm => by rw [Int.tdiv_eq_ediv_of_nonneg h0]
  have u : ∀ x m : Int, 0 ≤ x → x.tmod m = x % m := fun x m hx => by rw [Int.tmod_eq_emod_of_nonneg hx]
  have d : ∀ m : Int, 0 < m → 0 ≤ v / m ∧ v / m < 16777216 := fun m hm => ⟨Int.ediv_nonneg h0 (by omega), Int.lt_of_le_of_lt (Int.ediv_le_self m h0) h1⟩
  have W : ∀ m : Int, 0 < m → w64 (v / m) = v / m := fun m hm => w64_id (by have := d m hm; omega)
  rw [t 7 (by decide), t 28 (by decide), t 56 (by decide), t 1736 (by decide), t 5208 (by decide), t 208320 (by decide)]
  rw [W 7 (by decide), W 28 (by decide), W 56 (by decide), W 1736 (by decide), W 5208 (by decide), W 208320 (by decide)]
  rw [u (v / 7) _ (d 7 (by decide)).1, u (v / 28) 2 (d 28 (by decide)).1, u (v / 28) 31 (d 28 (by decide)).1, u (v / 56) 31 (d 56 (by decide)).1, u (v / 56) 17 (d 56 (by decide)).1, u (v / 1736) _ (d 1736 (by decide)).1, u (v / 5208) _ (d 5208 (by decide)).1, u (v / 208320) _ (d 208320 (by decide)).1, u v _ h0, u (v / 28) 5 (d 28 (by decide)).1]
  have b1 := emod_bd (v / 7) (show (0 : Int) < 4 by decide)
  have b2 := emod_bd (v / 28) (show (0 : Int) < 2 by decide)
  have b3 := emod_bd (v / 28) (show (0 : Int) < 31 by decide)
  have b4 := emod_bd (v / 56) (show (0 : Int) < 31 by decide)
  have b5 := emod_bd (v / 56) (show (0 : Int) < 17 by decide)
  have b6 := emod_bd (v / 5208) (show (0 : Int) < 40 by decide)
  have b7 := emod_bd (v / 208320) (show (0 : Int) < 3 by decide)
  have b8 := emod_bd v (show (0 : Int) < 7 by decide)
  have b9 := emod_bd (v / 28) (show (0 : Int) < 5 by decide)
  generalize v / 7 % 4 = q1 at b1
  generalize v / 28 % 2 = q2 at b2
  generalize v / 28 % 31 = q3 at b3
  generalize v / 56 % 31 = q4 at b4
  generalize v / 56 % 17 = q5 at b5
  generalize v / 5208 % 40 = q6 at b6
  generalize v / 208320 % 3 = q7 at b7
  generalize v % 7 = q8 at b8
  generalize v / 28 % 5 = q9 at b9
  have e1 : ∃ lim : Int, geti ([1500, 600, 1000, 300] : List Int) q1 = some lim ∧ (lim = 1500 ∨ lim = 600 ∨ lim = 1000 ∨ lim = 300) := by
    rcases (show q1 = 0 ∨ q1 = 1 ∨ q1 = 2 ∨ q1 = 3 by omega) with rfl | rfl | rfl | rfl
    · exact ⟨1500, rfl, by decide⟩
    · exact ⟨600, rfl, by decide⟩
    · exact ⟨1000, rfl, by decide⟩
    · exact ⟨300, rfl, by decide⟩
  obtain ⟨lim, e1, hlim⟩ := e1
  rw [e1, Option.bind_some]
  have ew : ∀ (L : List Lane) (Z : List Zone) (S : List Signal), ∃ wk, (wk = [] ∨ ∃ b l, 0 ≤ b ∧ b < 40 ∧ 0 ≤ l ∧ l ≤ 400 ∧ wk = [⟨0, 10000, 15000, b, b + 20, l⟩]) ∧
      (cond (v / 1736 % 3 == 1) (some (Map.mk q9 L Z S [(Work.mk 0 10000 15000 q6 (w64 (q6 + 20)) (w64 (q7 * 200)))])) (some (Map.mk q9 L Z S []))) = some ⟨q9, L, Z, S, wk⟩ := by
    intro L Z S
    cases v / 1736 % 3 == 1
    · exact ⟨[], .inl rfl, rfl⟩
    · exact ⟨[⟨0, 10000, 15000, q6, q6 + 20, q7 * 200⟩], .inr ⟨q6, q7 * 200, by omega, by omega, by omega, by omega, rfl⟩, by rw [w64_id (by omega), w64_id (by omega)]; rfl⟩
  have er : w64 (2 - w64 (2 * q2)) = 2 - 2 * q2 := by rw [w64_id (n := 2 * q2) (by omega), w64_id (by omega)]
  rw [er]
  simp only [road_eq, Option.bind_some]
  have fin : ∀ (k : Nat) (o o' : Int) (L : List Lane) (Z : List Zone) (S : List Signal), k < 8 → 0 ≤ o ∧ o < 31 → 0 ≤ o' ∧ o' < 31 → L = kLanes k lim → Z = kZones k q2 → S = kSigs k o o' → ∃ k p, k < 8 ∧ ParOK p ∧ (cond (v / 1736 % 3 == 1) (some (Map.mk q9 L Z S [(Work.mk 0 10000 15000 q6 (w64 (q6 + 20)) (w64 (q7 * 200)))])) (some (Map.mk q9 L Z S []))) = some (kmap k p) := by
    intro k o o' L Z S hk h1 h2 e1 e2 e3
    obtain ⟨wk, w1, w2⟩ := ew L Z S
    subst e1 e2 e3
    exact ⟨k, ⟨lim, q2, o, o', q9, wk⟩, hk, ⟨hlim, by dsimp only; omega, h1, h2, b9, w1⟩, w2⟩
  rcases (show q8 = 0 ∨ q8 = 1 ∨ q8 = 2 ∨ q8 = 3 ∨ q8 = 4 ∨ q8 = 5 ∨ q8 = 6 by omega) with rfl | rfl | rfl | rfl | rfl | rfl | rfl
  · exact fin 0 0 0 _ _ _ (by decide) (by decide) (by decide) rfl rfl rfl
  · exact fin 1 0 0 _ _ _ (by decide) (by decide) (by decide) rfl rfl rfl
  · exact fin 2 q3 0 _ _ _ (by decide) b3 (by decide) rfl rfl rfl
  · exact fin 3 0 0 _ _ _ (by decide) (by decide) (by decide) rfl rfl rfl
  · exact fin 4 0 0 _ _ _ (by decide) (by decide) (by decide) rfl rfl rfl
  · exact fin 5 0 0 _ _ _ (by decide) (by decide) (by decide) rfl rfl rfl
  · rcases (show q2 = 0 ∨ q2 = 1 by omega) with rfl | rfl
    · exact fin 6 0 0 _ _ _ (by decide) (by decide) (by decide) rfl rfl rfl
    · exact fin 7 q4 q5 _ _ _ (by decide) b4 (by omega) rfl rfl rfl
end Go.Abs.Roads

namespace Go.Abs.Roads
open Go Go.Abs
theorem kbase_all : ((List.range 8).all fun k => ([1500, 600, 1000, 300] : List Int).all fun lim => ([0, 1] : List Int).all fun r => roads_Checkc (kmap k ⟨lim, r, 0, 0, 0, []⟩) == some 0) = true := by decide +kernel
theorem kLanes_bear (k : Nat) (lim : Int) : (kLanes k lim).length ≤ 4 ∧ ∀ l ∈ kLanes k lim, l.Curve_.Pts.length = 2 ∧ l.Next.length ≤ 2 := by
  unfold kLanes
  split <;> simp [lnK]
theorem kZones_bear (k : Nat) (r : Int) : (kZones k r).length ≤ 2 ∧ ∀ z ∈ kZones k r, z.Parts.length ≤ 3 := by
  unfold kZones
  split <;> simp
theorem kSigs_bear (k : Nat) (o o' : Int) : (kSigs k o o').length ≤ 2 ∧ ∀ s ∈ kSigs k o o', s.Phases.length = 4 ∧ ∀ p ∈ s.Phases, p.Green.length ≤ 1 := by
  unfold kSigs
  split <;> simp [sgK]
theorem bear_of {m : Map} {k : Nat} {lim r o o' : Int} (h1 : m.Lanes = kLanes k lim) (h2 : m.Zones = kZones k r) (h3 : m.Signals = kSigs k o o') (h4 : m.Works.length ≤ 1) : BearM m := by
  obtain ⟨a1, a2⟩ := kLanes_bear k lim
  obtain ⟨b1, b2⟩ := kZones_bear k r
  obtain ⟨c1, c2⟩ := kSigs_bear k o o'
  refine ⟨⟨by rw [h1]; omega, fun l hl => ?_⟩, ⟨by rw [h3]; omega, fun s hs => ⟨?_, fun p hp => ?_⟩⟩, ⟨by rw [h2]; omega, fun z hz => ?_⟩, ⟨by omega⟩⟩
  · rw [h1] at hl; have := a2 l hl; omega
  · rw [h3] at hs; have := (c2 s hs).1; omega
  · rw [h3] at hs; have := (c2 s hs).2 p hp; omega
  · rw [h2] at hz; have := b2 z hz; omega
theorem kbase {k : Nat} {p : Par} (hk : k < 8) (h : ParOK p) : ValR (kmap k ⟨p.lim, p.r, 0, 0, 0, []⟩) := by
  have h1 := List.all_eq_true.1 kbase_all k (List.mem_range.2 hk)
  have h2 := List.all_eq_true.1 h1 p.lim (by have := h.lim; simp; omega)
  have h3 := List.all_eq_true.1 h2 p.r (by have := h.r; simp; omega)
  have h4 := roads_Check_le _ _ (eq_of_beq h3)
  have h5 := roads_Check_eq (m := kmap k ⟨p.lim, p.r, 0, 0, 0, []⟩) (bear_of rfl rfl rfl (Nat.zero_le 1))
  rw [h4] at h5
  exact chkR_zero.1 (Option.some.inj h5).symm
/-- Another version, other offsets, other works. -/
theorem ValR.change {L : List Lane} {Z : List Zone} {S S' : List Signal} {W W' : List Work} {v v' : Int} (V : ValR ⟨v, L, Z, S, W⟩) (hv : 0 ≤ v' ∧ v' ≤ 1099511627776) (hl : S'.length = S.length) (hs : ∀ s ∈ S', Roads.signalE ⟨v, L, Z, S, W⟩ 0 s = none) (hw : W'.length ≤ 8) (hw' : ∀ w ∈ W', Roads.workE ⟨v, L, Z, S, W⟩ 0 w = none) : ValR ⟨v', L, Z, S', W'⟩ := by
  refine ⟨hv, V.pos, V.lanes, V.zones, by show S'.length ≤ 4; rw [hl]; exact V.signals, hw, V.laneE, V.nextE, ?_, ?_, ?_⟩
  · rw [firstE_none]
    intro j a ha
    exact hs a (List.mem_of_getElem? ha)
  · have := V.zoneE
    rw [firstE_none] at this ⊢
    intro j a ha
    have := this j a ha
    unfold Roads.zoneE at this ⊢
    dsimp only at this ⊢
    rw [hl]
    exact this
  · rw [firstE_none]
    intro j a ha
    exact hw' a (List.mem_of_getElem? ha)
theorem kSigs_len (k : Nat) (o o' a a' : Int) : (kSigs k o o').length = (kSigs k a a').length := by unfold kSigs; split <;> rfl
theorem kSigs_ok {k : Nat} {o o' : Int} (h : 0 ≤ o ∧ o < 31) (h' : 0 ≤ o' ∧ o' < 31) {m : Map} (hm : m.Lanes.length = (kLanes k 0).length) : ∀ s ∈ kSigs k o o', signalE m 0 s = none := by
  have key : ∀ (off a b : Int), 0 ≤ off ∧ off < 31 → 0 ≤ a ∧ a < m.Lanes.length → 0 ≤ b ∧ b < m.Lanes.length → signalE m 0 (sgK off a b) = none := by
    intro off a b h1 h2 h3
    unfold signalE sgK
    simp only [List.length_cons, List.length_nil]
    rw [if_neg (by decide), if_neg (by decide), if_neg (by simp [inR]; omega), if_neg (by simp [inR]), if_neg]
    simp only [List.any_cons, List.any_nil, riseM, Bool.and_true, Bool.or_false, Bool.not_true, Bool.false_or, Bool.or_eq_true, Bool.not_eq_true', not_or, Bool.not_eq_false, Bool.and_eq_true, decide_eq_true_eq]
    omega
  intro s hs
  unfold kSigs at hs
  split at hs
  · rw [show (kLanes 2 0).length = 2 from rfl] at hm
    simp only [List.mem_singleton] at hs
    subst hs
    exact key _ _ _ h (by omega) (by omega)
  · rw [show (kLanes 7 0).length = 4 from rfl] at hm
    simp only [List.mem_cons, List.not_mem_nil, or_false] at hs
    rcases hs with rfl | rfl
    · exact key _ _ _ h (by omega) (by omega)
    · exact key _ _ _ h' (by omega) (by omega)
  · cases hs
theorem kLanes_len (k : Nat) (lim : Int) : (kLanes k lim).length = (kLanes k 0).length := by unfold kLanes; split <;> rfl
end Go.Abs.Roads

namespace Go.Abs.Roads
open Go Go.Abs
theorem lenM_line (c : Int) (h : curve_Lengthc ⟨[⟨0, 0⟩, ⟨c, 0⟩]⟩ = some c) : lenM ⟨[⟨0, 0⟩, ⟨c, 0⟩]⟩ = c := by
  have h1 := curve_Length_le _ _ h
  rw [curve_Length_eq _ (by simp)] at h1
  exact Option.some.inj h1
/-- The first lane of a map of the kit: a road, long enough. -/
theorem kfirst_lane (k : Nat) (lim : Int) : ∃ l, (kLanes k lim)[0]? = some l ∧ l.Kind = 1 ∧ l.Limit = lim ∧ 20000 ≤ lenM l.Curve_ ∧ lenM l.Curve_ ≤ 60000 := by
  have e6 := lenM_line 60000 (by decide +kernel)
  have e5 := lenM_line 50000 (by decide +kernel)
  have e3 := lenM_line 30000 (by decide +kernel)
  have e2 := lenM_line 20000 (by decide +kernel)
  unfold kLanes
  split
  · exact ⟨_, rfl, rfl, rfl, by show 20000 ≤ lenM ⟨[⟨0, 0⟩, ⟨60000, 0⟩]⟩ ∧ lenM ⟨[⟨0, 0⟩, ⟨60000, 0⟩]⟩ ≤ 60000; rw [e6]; decide⟩
  · exact ⟨_, rfl, rfl, rfl, by show 20000 ≤ lenM ⟨[⟨0, 0⟩, ⟨50000, 0⟩]⟩ ∧ lenM ⟨[⟨0, 0⟩, ⟨50000, 0⟩]⟩ ≤ 60000; rw [e5]; decide⟩
  · exact ⟨_, rfl, rfl, rfl, by show 20000 ≤ lenM ⟨[⟨0, 0⟩, ⟨50000, 0⟩]⟩ ∧ lenM ⟨[⟨0, 0⟩, ⟨50000, 0⟩]⟩ ≤ 60000; rw [e5]; decide⟩
  · exact ⟨_, rfl, rfl, rfl, by show 20000 ≤ lenM ⟨[⟨0, 0⟩, ⟨30000, 0⟩]⟩ ∧ lenM ⟨[⟨0, 0⟩, ⟨30000, 0⟩]⟩ ≤ 60000; rw [e3]; decide⟩
  · exact ⟨_, rfl, rfl, rfl, by show 20000 ≤ lenM ⟨[⟨0, 0⟩, ⟨30000, 0⟩]⟩ ∧ lenM ⟨[⟨0, 0⟩, ⟨30000, 0⟩]⟩ ≤ 60000; rw [e3]; decide⟩
  · exact ⟨_, rfl, rfl, rfl, by show 20000 ≤ lenM ⟨[⟨0, 0⟩, ⟨20000, 0⟩]⟩ ∧ lenM ⟨[⟨0, 0⟩, ⟨20000, 0⟩]⟩ ≤ 60000; rw [e2]; decide⟩
  · exact ⟨_, rfl, rfl, rfl, by show 20000 ≤ lenM ⟨[⟨0, 0⟩, ⟨20000, 0⟩]⟩ ∧ lenM ⟨[⟨0, 0⟩, ⟨20000, 0⟩]⟩ ≤ 60000; rw [e2]; decide⟩
theorem work0 {m : Map} {l : Lane} (hl : m.Lanes[0]? = some l) (hk : l.Kind = 1) {w : Work} (h : w.Lane_ = 0 ∧ 0 ≤ w.From ∧ w.From ≤ w.To ∧ w.To ≤ lenM l.Curve_ ∧ 0 ≤ w.Begin ∧ w.Begin < w.End ∧ w.End ≤ 1099511627776 ∧ 0 ≤ w.Limit ∧ w.Limit ≤ 2000) : workE m 0 w = none := by
  obtain ⟨h1, h2, h3, h4, h5, h6, h7, h8, h9⟩ := h
  have hlen := lt_get hl
  unfold workE laneLen
  rw [h1, show ((0 : Int).toNat) = 0 from rfl, hl, if_neg (by omega), if_neg]
  simp only [Option.map_some, Option.getD_some, Option.get!_some, hk, inR, topM, if_true, Bool.or_eq_true, decide_eq_true_eq, Bool.not_eq_true', not_or, Bool.not_eq_false, Bool.and_eq_true]
  omega
/-- A map of the kit is valid, with such works. -/
theorem kit_valW {k : Nat} {p : Par} (hk : k < 8) (h : ParOK p) {W : List Work} (hw : W.length ≤ 8) (hW : ∀ w ∈ W, w.Lane_ = 0 ∧ 0 ≤ w.From ∧ w.From ≤ w.To ∧ w.To ≤ laneLen (kmap k p) 0 ∧ 0 ≤ w.Begin ∧ w.Begin < w.End ∧ w.End ≤ 1099511627776 ∧ 0 ≤ w.Limit ∧ w.Limit ≤ 2000) : ValR ⟨p.ver, kLanes k p.lim, kZones k p.r, kSigs k p.o p.o', W⟩ := by
  have V := kbase hk h
  obtain ⟨l, l1, l2, l3, l4, l5⟩ := kfirst_lane k p.lim
  have hv := h.ver
  refine ValR.change (v := 0) (S := kSigs k 0 0) (W := []) V (by omega) (kSigs_len k _ _ _ _) (fun s hs => kSigs_ok h.o h.o' (by exact kLanes_len k p.lim) s hs) hw (fun w hwm => ?_)
  obtain ⟨a1, a2, a3, a4, a5, a6, a7, a8, a9⟩ := hW w hwm
  refine work0 (l := l) l1 l2 ⟨a1, a2, a3, ?_, a5, a6, a7, a8, a9⟩
  have : laneLen (kmap k p) 0 = lenM l.Curve_ := by
    unfold laneLen kmap
    dsimp only
    rw [show ((0 : Int).toNat) = 0 from rfl, l1]; rfl
  omega
theorem kit_long0 (k : Nat) (p : Par) : 20000 ≤ laneLen (kmap k p) 0 ∧ laneLen (kmap k p) 0 ≤ 60000 := by
  obtain ⟨l, l1, l2, l3, l4, l5⟩ := kfirst_lane k p.lim
  unfold laneLen kmap
  dsimp only
  rw [show ((0 : Int).toNat) = 0 from rfl, l1]
  exact ⟨l4, l5⟩
def limStep (k off tick : Int) (_ : Nat) (o : Int) (w : Work) : Int := if w.Lane_ == k && inR off w.From w.To && inR tick w.Begin (w.End - 1) then min o w.Limit else o
noncomputable def limitM (m : Map) (k off tick : Int) : Int := if (isM m k && inR off 0 (laneLen m k)) = true then ifold (limStep k off tick) 0 (((m.Lanes[k.toNat]?).map (·.Limit)).getD 0) m.Works else 0
theorem ValR.work {m : Map} (V : ValR m) {w : Work} (hw : w ∈ m.Works) : 0 ≤ w.Lane_ ∧ w.Lane_ < m.Lanes.length ∧ 0 ≤ w.From ∧ w.From ≤ w.To ∧ w.To ≤ laneLen m w.Lane_ ∧ 0 ≤ w.Begin ∧ w.Begin < w.End ∧ w.End ≤ 1099511627776 := by
  obtain ⟨i, hi, rfl⟩ := List.mem_iff_getElem.1 hw
  have := firstE_none.1 V.workE i _ (List.getElem?_eq_getElem hi)
  unfold Roads.workE at this
  split at this
  · cases this
  · rename_i h1
    split at this
    · cases this
    · rename_i h2
      simp only [Bool.or_eq_true, decide_eq_true_eq, not_or, Bool.not_eq_true', Bool.not_eq_false] at h2
      omega
theorem Limit_eq {m : Map} (B : BearM m) (k off tick : Int) : roads_Limit m k off tick = some (limitM m k off tick) := by
  have hb := B.lanes
  have hw := B.toBearW.many
  unfold roads_Limit limitM
  rw [roads_is_eq B, Option.bind_some]
  cases h : isM m k
  · rfl
  · obtain ⟨k0, k1, V⟩ := isM_true.1 h
    obtain ⟨l, e1, e2⟩ := lane_of k0 k1
    simp only [Bool.not_true, Bool.not_false, cond_true, Bool.false_or, Bool.true_and]
    rw [long_at B.toBear k0 k1, Option.bind_some, within_eq, Option.bind_some]
    cases inR off 0 (laneLen m k)
    · rfl
    · simp only [Bool.not_true, cond_false, if_true]
      rw [e2, Option.bind_some, e1, Option.map_some, Option.getD_some]
      rw [floop2 m.Works (limStep k off tick) id l.Limit (fun i w s hwi => by
        have hi := lt_get hwi
        have hv := V.work (List.mem_of_getElem? hwi)
        unfold roads_Limit_l1 limStep
        dsimp only
        rw [lt_dec hi, geti_get hwi, cond_true, Option.bind_some, within_eq, within_eq, w64_succ hi (by omega), wid (n := w.End - 1) (by omega), mm2_min]
        cases w.Lane_ == k
        · rfl
        · cases inR off w.From w.To
          · rfl
          · cases inR tick w.Begin (w.End - 1) <;> rfl) (fun s => by unfold roads_Limit_l1; rw [nlt_dec]; rfl)]
      rfl
theorem law03_RoadsWorks_plain (n : Int) (x : Int × Int × Int × Int × Int) (offset tick : Int) : law03_RoadsWorks n x offset tick = some true := by
  obtain ⟨x0, x1, x2, x3, x4⟩ := x
  unfold law03_RoadsWorks
  obtain ⟨k, p, hk, hp, e⟩ := kit_Map_eq n
  rw [e, Option.bind_some, awake_eq]
  dsimp only
  have hl := kit_long0 k p
  have hkm : kmap k p = ⟨p.ver, kLanes k p.lim, kZones k p.r, kSigs k p.o p.o', p.wk⟩ := rfl
  have V0 := kit_valW hk hp (W := []) (Nat.zero_le _) (fun w hw => by cases hw)
  have B0 : BearM ⟨p.ver, kLanes k p.lim, kZones k p.r, kSigs k p.o p.o', []⟩ := bear_of rfl rfl rfl (Nat.zero_le _)
  obtain ⟨l, l1, l2, l3, l4, l5⟩ := kfirst_lane k p.lim
  have hpos := lt_get l1
  have is0 : ∀ {W : List Work}, ValR ⟨p.ver, kLanes k p.lim, kZones k p.r, kSigs k p.o p.o', W⟩ → isM ⟨p.ver, kLanes k p.lim, kZones k p.r, kSigs k p.o p.o', W⟩ 0 = true := fun V => isM_true.2 ⟨by decide, by show (0 : Int) < ((kLanes k p.lim).length : Int); omega, V⟩
  have len0 : ∀ W : List Work, laneLen ⟨p.ver, kLanes k p.lim, kZones k p.r, kSigs k p.o p.o', W⟩ 0 = laneLen (kmap k p) 0 := fun W => rfl
  rw [hkm]
  dsimp only
  rw [roads_Length_eq B0, Option.bind_some, lengthM, if_pos (is0 V0), len0]
  generalize hL : laneLen (kmap k p) 0 = L at hl
  rw [show decide (L < 1000) = false from decide_eq_false (by omega), cond_false, wid (n := L + 1) (by omega)]
  rw [kit_Mod64_eq (n := x0) (by omega) (by omega), Option.bind_some]
  have c0 := emod_bd x0 (show (0 : Int) < L + 1 by omega)
  generalize x0 % (L + 1) = f at c0
  rw [wid (n := L - f) (by omega), wid (n := L - f + 1) (by omega), kit_Mod64_eq (n := x1) (by omega) (by omega), Option.bind_some]
  have c1 := emod_bd x1 (show (0 : Int) < L - f + 1 by omega)
  generalize x1 % (L - f + 1) = g at c1
  rw [kit_Mod64_eq (n := x2) (by omega) (by omega), Option.bind_some, kit_Mod64_eq (n := x4) (by omega) (by omega), Option.bind_some, kit_Mod64_eq (n := x3) (by omega) (by omega), Option.bind_some, kit_Mod64_eq (n := offset) (by omega) (by omega), Option.bind_some, kit_Mod64_eq (n := tick) (by omega) (by omega), Option.bind_some]
  have c2 := emod_bd x2 (show (0 : Int) < 1000 by omega)
  have c3 := emod_bd x3 (show (0 : Int) < 100 by omega)
  have c4 := emod_bd x4 (show (0 : Int) < 2001 by omega)
  have c5 := emod_bd offset (show (0 : Int) < L + 1 by omega)
  have c6 := emod_bd tick (show (0 : Int) < 1001 by omega)
  generalize x2 % 1000 = b at c2
  generalize x3 % 100 = d at c3
  generalize x4 % 2001 = lim at c4
  generalize offset % (L + 1) = o at c5
  generalize tick % 1001 = t at c6
  rw [wid (n := f + g) (by omega), wid (n := b + 1) (by omega), wid (n := b + 1 + d) (by omega)]
  have VW := kit_valW hk hp (W := [⟨0, f, f + g, b, b + 1 + d, lim⟩]) (by simp) (fun w hw => by
    simp only [List.mem_singleton] at hw
    subst hw
    dsimp only
    omega)
  have BW : BearM ⟨p.ver, kLanes k p.lim, kZones k p.r, kSigs k p.o p.o', [⟨0, f, f + g, b, b + 1 + d, lim⟩]⟩ := bear_of rfl rfl rfl (Nat.le_refl _)
  rw [Limit_eq B0, Option.bind_some, show geti (kLanes k p.lim) 0 = some l from geti_get (i := 0) l1, Option.bind_some, l2, roads_Check_eq BW, chkR_zero.2 VW]
  simp only [bne_self_eq_false, Bool.not_false, cond_true, Option.bind_some, Bool.false_or, cond_false]
  rw [Limit_eq BW, Option.bind_some]
  unfold limitM
  rw [is0 V0, is0 VW, len0, len0, hL]
  dsimp only
  rw [show inR o 0 L = true by simp [inR]; omega, show ((0 : Int).toNat) = 0 from rfl, l1]
  simp only [Bool.and_self, if_true, Option.map_some, Option.getD_some, ifold, limStep]
  have hw : (if ((0 : Int) == 0 && inR o f (f + g) && inR t b (b + 1 + d - 1)) = true then min l.Limit lim else l.Limit) = if o < f ∨ o > f + g ∨ t < b ∨ t ≥ b + 1 + d then l.Limit else min l.Limit lim := by
    simp only [inR, beq_self_eq_true, Bool.true_and, Bool.and_eq_true, decide_eq_true_eq]
    split <;> split <;> first | rfl | omega
  rw [hw, mm2_min]
  by_cases q : o < f ∨ o > f + g ∨ t < b ∨ t ≥ b + 1 + d
  · rw [if_pos q, show ((((decide (o < f)) || (decide (o > f + g))) || (decide (t < b))) || (decide (t ≥ b + 1 + d))) = true by simp; omega]
    simp
  · rw [if_neg q, show ((((decide (o < f)) || (decide (o > f + g))) || (decide (t < b))) || (decide (t ≥ b + 1 + d))) = false by simp; omega]
    simp
end Go.Abs.Roads
