/-
  Plain facts on the functions: what they compute, and that the law holds of it.
-/
import Derived.Test.YtdkgjoilcfoclaaFns2

set_option maxRecDepth 100000
set_option linter.unusedVariables false
namespace Go.Abs.Convoy
open Go Go.Abs
def convoy_withinc (p1 : Int) (p2 : Int) (p3 : Int) : Option Bool :=
  some ((decide (p2 ≤ p1)) && (decide (p1 ≤ p3)))
theorem convoy_within_le (p1 : Int) (p2 : Int) (p3 : Int) : Le (convoy_withinc p1 p2 p3) (convoy_within p1 p2 p3) := by
  unfold convoy_withinc convoy_within
  repeat' first | exact Le.refl _ | refine Le.bind ?_ fun _ => ?_ | refine Le.cond ?_ ?_ | refine Le.ite ?_ ?_ | refine Le.thenS ?_ (fun _ => ?_) (fun _ => ?_) | refine Le.loop (fun _ => ?_) _ | refine Le.loopL (fun _ _ => ?_) _ _
def convoy_fairBodyc (p1 : Int) (p2 : Int) (p3 : Int) (p4 : Int) : Option Bool :=
  ((cond ((decide (p1 ≥ 1)) && (decide (p1 ≤ 99))) (convoy_withinc p2 0 1099511627776) (some default))).bind fun v1 => ((cond (((decide (p1 ≥ 1)) && (decide (p1 ≤ 99))) && v1) (convoy_withinc p3 0 2000) (some default))).bind fun v2 => ((cond ((((decide (p1 ≥ 1)) && (decide (p1 ≤ 99))) && v1) && v2) (convoy_withinc p4 300 20000) (some default))).bind fun v3 => some (((((decide (p1 ≥ 1)) && (decide (p1 ≤ 99))) && v1) && v2) && v3)
theorem convoy_fairBody_le (p1 : Int) (p2 : Int) (p3 : Int) (p4 : Int) : Le (convoy_fairBodyc p1 p2 p3 p4) (convoy_fairBody p1 p2 p3 p4) := by
  unfold convoy_fairBodyc convoy_fairBody
  repeat' first | exact Le.refl _ | exact convoy_within_le _ _ _ | refine Le.bind ?_ fun _ => ?_ | refine Le.cond ?_ ?_ | refine Le.ite ?_ ?_ | refine Le.thenS ?_ (fun _ => ?_) (fun _ => ?_) | refine Le.loop (fun _ => ?_) _ | refine Le.loopL (fun _ _ => ?_) _ _
def convoy_fairIDc (p1 : Int) : Option Bool :=
  some ((decide (p1 ≥ 0)) && (decide (p1 ≤ 99)))
theorem convoy_fairID_le (p1 : Int) : Le (convoy_fairIDc p1) (convoy_fairID p1) := by
  unfold convoy_fairIDc convoy_fairID
  repeat' first | exact Le.refl _ | refine Le.bind ?_ fun _ => ?_ | refine Le.cond ?_ ?_ | refine Le.ite ?_ ?_ | refine Le.thenS ?_ (fun _ => ?_) (fun _ => ?_) | refine Le.loop (fun _ => ?_) _ | refine Le.loopL (fun _ _ => ?_) _ _
def convoy_fairGuessc (p1 : Guess) : Option Bool :=
  (convoy_withinc p1.R (-20000) 2199023255552).bind fun v1 => ((cond v1 (convoy_withinc p1.V 0 2000) (some default))).bind fun v2 => some (v1 && v2)
theorem convoy_fairGuess_le (p1 : Guess) : Le (convoy_fairGuessc p1) (convoy_fairGuess p1) := by
  unfold convoy_fairGuessc convoy_fairGuess
  repeat' first | exact Le.refl _ | exact convoy_within_le _ _ _ | refine Le.bind ?_ fun _ => ?_ | refine Le.cond ?_ ?_ | refine Le.ite ?_ ?_ | refine Le.thenS ?_ (fun _ => ?_) (fun _ => ?_) | refine Le.loop (fun _ => ?_) _ | refine Le.loopL (fun _ _ => ?_) _ _
def convoy_fairMatec (p1 : Mate) : Option Bool :=
  (convoy_fairBodyc p1.ID p1.S p1.V p1.Len).bind fun v1 => ((cond v1 (convoy_fairIDc p1.Ahead) (some default))).bind fun v2 => ((cond (v1 && v2) (convoy_fairIDc p1.Ward) (some default))).bind fun v3 => ((cond ((v1 && v2) && v3) (convoy_withinc p1.Until 0 2199023255552) (some default))).bind fun v4 => ((cond (((v1 && v2) && v3) && v4) (convoy_fairGuessc p1.Guess_) (some default))).bind fun v5 => ((cond ((((v1 && v2) && v3) && v4) && v5) (convoy_fairGuessc p1.WardGuess) (some default))).bind fun v6 => some (((((v1 && v2) && v3) && v4) && v5) && v6)
theorem convoy_fairMate_le (p1 : Mate) : Le (convoy_fairMatec p1) (convoy_fairMate p1) := by
  unfold convoy_fairMatec convoy_fairMate
  repeat' first | exact Le.refl _ | exact convoy_fairBody_le _ _ _ _ | exact convoy_fairID_le _ | exact convoy_within_le _ _ _ | exact convoy_fairGuess_le _ | refine Le.bind ?_ fun _ => ?_ | refine Le.cond ?_ ?_ | refine Le.ite ?_ ?_ | refine Le.thenS ?_ (fun _ => ?_) (fun _ => ?_) | refine Le.loop (fun _ => ?_) _ | refine Le.loopL (fun _ _ => ?_) _ _
def convoy_numbers_1c (p1 : Mate) : Option Bool :=
  (convoy_fairMatec p1).bind fun v1 => some (!v1)
theorem convoy_numbers_1_le (p1 : Mate) : Le (convoy_numbers_1c p1) (convoy_numbers_1 p1) := by
  unfold convoy_numbers_1c convoy_numbers_1
  repeat' first | exact Le.refl _ | exact convoy_fairMate_le _ | refine Le.bind ?_ fun _ => ?_ | refine Le.cond ?_ ?_ | refine Le.ite ?_ ?_ | refine Le.thenS ?_ (fun _ => ?_) (fun _ => ?_) | refine Le.loop (fun _ => ?_) _ | refine Le.loopL (fun _ _ => ?_) _ _
def slices_IndexFunc_Mate_Mate_convoy_numbers_1_l1c (p1 : (List Mate)) (x1 : Int) : Option (Stp Int (Sum Unit Int)) :=
  cond (decide (x1 < (p1.length : Int))) ((geti p1 x1).bind fun v1 => (convoy_numbers_1c v1).bind fun v2 => cond v2 (some (.out (.inr x1))) (some (.go (w64 (x1 + 1))))) (some (.out (.inl ())))
theorem slices_IndexFunc_Mate_Mate_convoy_numbers_1_l1_le (p1 : (List Mate)) (x1 : Int) : Le (slices_IndexFunc_Mate_Mate_convoy_numbers_1_l1c p1 x1) (slices_IndexFunc_Mate_Mate_convoy_numbers_1_l1 p1 x1) := by
  unfold slices_IndexFunc_Mate_Mate_convoy_numbers_1_l1c slices_IndexFunc_Mate_Mate_convoy_numbers_1_l1
  repeat' first | exact Le.refl _ | exact convoy_numbers_1_le _ | refine Le.bind ?_ fun _ => ?_ | refine Le.cond ?_ ?_ | refine Le.ite ?_ ?_ | refine Le.thenS ?_ (fun _ => ?_) (fun _ => ?_) | refine Le.loop (fun _ => ?_) _ | refine Le.loopL (fun _ _ => ?_) _ _
def slices_IndexFunc_Mate_Mate_convoy_numbers_1c (p1 : (List Mate)) : Option Int :=
  thenS (loopF (slices_IndexFunc_Mate_Mate_convoy_numbers_1_l1c p1) 0) (fun _ => some (-1)) (fun r => some r)
theorem slices_IndexFunc_Mate_Mate_convoy_numbers_1_le (p1 : (List Mate)) : Le (slices_IndexFunc_Mate_Mate_convoy_numbers_1c p1) (slices_IndexFunc_Mate_Mate_convoy_numbers_1 p1) := by
  unfold slices_IndexFunc_Mate_Mate_convoy_numbers_1c slices_IndexFunc_Mate_Mate_convoy_numbers_1
  repeat' first | exact Le.refl _ | exact slices_IndexFunc_Mate_Mate_convoy_numbers_1_l1_le _ _ | refine Le.bind ?_ fun _ => ?_ | refine Le.cond ?_ ?_ | refine Le.ite ?_ ?_ | refine Le.thenS ?_ (fun _ => ?_) (fun _ => ?_) | refine Le.loop (fun _ => ?_) _ | refine Le.loopL (fun _ _ => ?_) _ _
def slices_ContainsFunc_Mate_Mate_convoy_numbers_1c (p1 : (List Mate)) : Option Bool :=
  (slices_IndexFunc_Mate_Mate_convoy_numbers_1c p1).bind fun v1 => some (decide (v1 ≥ 0))
theorem slices_ContainsFunc_Mate_Mate_convoy_numbers_1_le (p1 : (List Mate)) : Le (slices_ContainsFunc_Mate_Mate_convoy_numbers_1c p1) (slices_ContainsFunc_Mate_Mate_convoy_numbers_1 p1) := by
  unfold slices_ContainsFunc_Mate_Mate_convoy_numbers_1c slices_ContainsFunc_Mate_Mate_convoy_numbers_1
  repeat' first | exact Le.refl _ | exact slices_IndexFunc_Mate_Mate_convoy_numbers_1_le _ | refine Le.bind ?_ fun _ => ?_ | refine Le.cond ?_ ?_ | refine Le.ite ?_ ?_ | refine Le.thenS ?_ (fun _ => ?_) (fun _ => ?_) | refine Le.loop (fun _ => ?_) _ | refine Le.loopL (fun _ _ => ?_) _ _
def convoy_fairGuestc (p1 : Guest) : Option Bool :=
  cond (p1.ID == 0) (some (p1.ID == 0 && (p1.S == 0 && (p1.V == 0 && (p1.Len == 0 && (p1.End == 0 && (p1.Ahead == 0 && (p1.Guess_.R == 0 && (p1.Guess_.V == 0 && (p1.From == 0 && (p1.Until == 0 && true))))))))))) ((convoy_fairBodyc p1.ID p1.S p1.V p1.Len).bind fun v1 => ((cond v1 (convoy_fairIDc p1.Ahead) (some default))).bind fun v2 => ((cond (v1 && v2) (convoy_fairIDc p1.From) (some default))).bind fun v3 => ((cond ((v1 && v2) && v3) (convoy_withinc p1.Until 0 2199023255552) (some default))).bind fun v4 => ((cond (((v1 && v2) && v3) && v4) (convoy_withinc p1.End 0 1099511627776) (some default))).bind fun v5 => ((cond ((((v1 && v2) && v3) && v4) && v5) (convoy_fairGuessc p1.Guess_) (some default))).bind fun v6 => some (((((v1 && v2) && v3) && v4) && v5) && v6))
theorem convoy_fairGuest_le (p1 : Guest) : Le (convoy_fairGuestc p1) (convoy_fairGuest p1) := by
  unfold convoy_fairGuestc convoy_fairGuest
  repeat' first | exact Le.refl _ | exact convoy_fairBody_le _ _ _ _ | exact convoy_fairID_le _ | exact convoy_within_le _ _ _ | exact convoy_fairGuess_le _ | refine Le.bind ?_ fun _ => ?_ | refine Le.cond ?_ ?_ | refine Le.ite ?_ ?_ | refine Le.thenS ?_ (fun _ => ?_) (fun _ => ?_) | refine Le.loop (fun _ => ?_) _ | refine Le.loopL (fun _ _ => ?_) _ _
def convoy_numbersc (p1 : Convoy) : Option Int :=
  (cond (!(p1.Guest_.ID == 0 && (p1.Guest_.S == 0 && (p1.Guest_.V == 0 && (p1.Guest_.Len == 0 && (p1.Guest_.End == 0 && (p1.Guest_.Ahead == 0 && (p1.Guest_.Guess_.R == 0 && (p1.Guest_.Guess_.V == 0 && (p1.Guest_.From == 0 && (p1.Guest_.Until == 0 && true))))))))))) (some (w64 ((p1.Mates.length : Int) + 1))) (some (p1.Mates.length : Int))).bind fun y1 => (convoy_withinc p1.Tick 0 1099511627776).bind fun v1 => ((cond (!(!v1)) (convoy_withinc p1.Gap 1 20000) (some default))).bind fun v2 => cond ((!v1) || (!v2)) (some 2) (cond ((p1.Mates.length : Int) == 0) (some 6) (cond (decide (y1 > 8)) (some 8) ((slices_ContainsFunc_Mate_Mate_convoy_numbers_1c p1.Mates).bind fun v3 => ((cond (!v3) (convoy_fairGuestc p1.Guest_) (some default))).bind fun v4 => cond (v3 || (!v4)) (some 2) (some 0))))
theorem convoy_numbers_le (p1 : Convoy) : Le (convoy_numbersc p1) (convoy_numbers p1) := by
  unfold convoy_numbersc convoy_numbers
  repeat' first | exact Le.refl _ | exact convoy_within_le _ _ _ | exact slices_ContainsFunc_Mate_Mate_convoy_numbers_1_le _ | exact convoy_fairGuest_le _ | refine Le.bind ?_ fun _ => ?_ | refine Le.cond ?_ ?_ | refine Le.ite ?_ ?_ | refine Le.thenS ?_ (fun _ => ?_) (fun _ => ?_) | refine Le.loop (fun _ => ?_) _ | refine Le.loopL (fun _ _ => ?_) _ _
def convoy_rearc (p1 : Mate) : Option Int :=
  some (w64 (p1.S - p1.Len))
theorem convoy_rear_le (p1 : Mate) : Le (convoy_rearc p1) (convoy_rear p1) := by
  unfold convoy_rearc convoy_rear
  repeat' first | exact Le.refl _ | refine Le.bind ?_ fun _ => ?_ | refine Le.cond ?_ ?_ | refine Le.ite ?_ ?_ | refine Le.thenS ?_ (fun _ => ?_) (fun _ => ?_) | refine Le.loop (fun _ => ?_) _ | refine Le.loopL (fun _ _ => ?_) _ _
def convoy_orders_l2c (p1 : Convoy) (x2 : Int) : Option (Stp Int (Sum Unit Int)) :=
  cond (decide (x2 < (p1.Mates.length : Int))) ((geti p1.Mates x2).bind fun v2 => ((cond (decide (x2 > 0)) (geti p1.Mates (w64 (x2 - 1))) (some default))).bind fun v3 => ((cond (decide (x2 > 0)) (convoy_rearc v3) (some default))).bind fun v4 => cond ((decide (x2 > 0)) && (decide (v2.S ≥ v4))) (some (.out (.inr 11))) (some (.go (w64 (x2 + 1))))) (some (.out (.inl ())))
theorem convoy_orders_l2_le (p1 : Convoy) (x2 : Int) : Le (convoy_orders_l2c p1 x2) (convoy_orders_l2 p1 x2) := by
  unfold convoy_orders_l2c convoy_orders_l2
  repeat' first | exact Le.refl _ | exact convoy_rear_le _ | refine Le.bind ?_ fun _ => ?_ | refine Le.cond ?_ ?_ | refine Le.ite ?_ ?_ | refine Le.thenS ?_ (fun _ => ?_) (fun _ => ?_) | refine Le.loop (fun _ => ?_) _ | refine Le.loopL (fun _ _ => ?_) _ _
def convoy_orders_l1c (p1 : Convoy) (x1 : (Int × (List Int))) : Option (Stp (Int × (List Int)) (Sum Unit Int)) :=
  cond (decide (x1.1 < (p1.Mates.length : Int))) ((geti p1.Mates x1.1).bind fun v1 => cond (x1.2.contains v1.ID) (some (.out (.inr 9))) (some (.go ((w64 (x1.1 + 1)), (insm x1.2 v1.ID))))) (some (.out (.inl ())))
theorem convoy_orders_l1_le (p1 : Convoy) (x1 : (Int × (List Int))) : Le (convoy_orders_l1c p1 x1) (convoy_orders_l1 p1 x1) := by
  unfold convoy_orders_l1c convoy_orders_l1
  repeat' first | exact Le.refl _ | refine Le.bind ?_ fun _ => ?_ | refine Le.cond ?_ ?_ | refine Le.ite ?_ ?_ | refine Le.thenS ?_ (fun _ => ?_) (fun _ => ?_) | refine Le.loop (fun _ => ?_) _ | refine Le.loopL (fun _ _ => ?_) _ _
def convoy_ordersc (p1 : Convoy) : Option Int :=
  thenS (loopF (convoy_orders_l1c p1) (0, (insm ([] : List Int) p1.Guest_.ID))) (fun _ => thenS (loopF (convoy_orders_l2c p1) 0) (fun _ => some 0) (fun r => some r)) (fun r => some r)
theorem convoy_orders_le (p1 : Convoy) : Le (convoy_ordersc p1) (convoy_orders p1) := by
  unfold convoy_ordersc convoy_orders
  repeat' first | exact Le.refl _ | exact convoy_orders_l1_le _ _ | exact convoy_orders_l2_le _ _ | refine Le.bind ?_ fun _ => ?_ | refine Le.cond ?_ ?_ | refine Le.ite ?_ ?_ | refine Le.thenS ?_ (fun _ => ?_) (fun _ => ?_) | refine Le.loop (fun _ => ?_) _ | refine Le.loopL (fun _ _ => ?_) _ _
def convoy_sane_1c (p1 : Int) : Option Bool :=
  (convoy_withinc p1 (-4398046511104) 4398046511104).bind fun v1 => some (!v1)
theorem convoy_sane_1_le (p1 : Int) : Le (convoy_sane_1c p1) (convoy_sane_1 p1) := by
  unfold convoy_sane_1c convoy_sane_1
  repeat' first | exact Le.refl _ | exact convoy_within_le _ _ _ | refine Le.bind ?_ fun _ => ?_ | refine Le.cond ?_ ?_ | refine Le.ite ?_ ?_ | refine Le.thenS ?_ (fun _ => ?_) (fun _ => ?_) | refine Le.loop (fun _ => ?_) _ | refine Le.loopL (fun _ _ => ?_) _ _
def slices_IndexFunc_int64_int64_convoy_sane_1_l1c (p1 : (List Int)) (x1 : Int) : Option (Stp Int (Sum Unit Int)) :=
  cond (decide (x1 < (p1.length : Int))) ((geti p1 x1).bind fun v1 => (convoy_sane_1c v1).bind fun v2 => cond v2 (some (.out (.inr x1))) (some (.go (w64 (x1 + 1))))) (some (.out (.inl ())))
theorem slices_IndexFunc_int64_int64_convoy_sane_1_l1_le (p1 : (List Int)) (x1 : Int) : Le (slices_IndexFunc_int64_int64_convoy_sane_1_l1c p1 x1) (slices_IndexFunc_int64_int64_convoy_sane_1_l1 p1 x1) := by
  unfold slices_IndexFunc_int64_int64_convoy_sane_1_l1c slices_IndexFunc_int64_int64_convoy_sane_1_l1
  repeat' first | exact Le.refl _ | exact convoy_sane_1_le _ | refine Le.bind ?_ fun _ => ?_ | refine Le.cond ?_ ?_ | refine Le.ite ?_ ?_ | refine Le.thenS ?_ (fun _ => ?_) (fun _ => ?_) | refine Le.loop (fun _ => ?_) _ | refine Le.loopL (fun _ _ => ?_) _ _
def slices_IndexFunc_int64_int64_convoy_sane_1c (p1 : (List Int)) : Option Int :=
  thenS (loopF (slices_IndexFunc_int64_int64_convoy_sane_1_l1c p1) 0) (fun _ => some (-1)) (fun r => some r)
theorem slices_IndexFunc_int64_int64_convoy_sane_1_le (p1 : (List Int)) : Le (slices_IndexFunc_int64_int64_convoy_sane_1c p1) (slices_IndexFunc_int64_int64_convoy_sane_1 p1) := by
  unfold slices_IndexFunc_int64_int64_convoy_sane_1c slices_IndexFunc_int64_int64_convoy_sane_1
  repeat' first | exact Le.refl _ | exact slices_IndexFunc_int64_int64_convoy_sane_1_l1_le _ _ | refine Le.bind ?_ fun _ => ?_ | refine Le.cond ?_ ?_ | refine Le.ite ?_ ?_ | refine Le.thenS ?_ (fun _ => ?_) (fun _ => ?_) | refine Le.loop (fun _ => ?_) _ | refine Le.loopL (fun _ _ => ?_) _ _
def slices_ContainsFunc_int64_int64_convoy_sane_1c (p1 : (List Int)) : Option Bool :=
  (slices_IndexFunc_int64_int64_convoy_sane_1c p1).bind fun v1 => some (decide (v1 ≥ 0))
theorem slices_ContainsFunc_int64_int64_convoy_sane_1_le (p1 : (List Int)) : Le (slices_ContainsFunc_int64_int64_convoy_sane_1c p1) (slices_ContainsFunc_int64_int64_convoy_sane_1 p1) := by
  unfold slices_ContainsFunc_int64_int64_convoy_sane_1c slices_ContainsFunc_int64_int64_convoy_sane_1
  repeat' first | exact Le.refl _ | exact slices_IndexFunc_int64_int64_convoy_sane_1_le _ | refine Le.bind ?_ fun _ => ?_ | refine Le.cond ?_ ?_ | refine Le.ite ?_ ?_ | refine Le.thenS ?_ (fun _ => ?_) (fun _ => ?_) | refine Le.loop (fun _ => ?_) _ | refine Le.loopL (fun _ _ => ?_) _ _
def convoy_sanec (p1 : (List Int)) : Option Bool :=
  (slices_ContainsFunc_int64_int64_convoy_sane_1c p1).bind fun v1 => some (!v1)
theorem convoy_sane_le (p1 : (List Int)) : Le (convoy_sanec p1) (convoy_sane p1) := by
  unfold convoy_sanec convoy_sane
  repeat' first | exact Le.refl _ | exact slices_ContainsFunc_int64_int64_convoy_sane_1_le _ | refine Le.bind ?_ fun _ => ?_ | refine Le.cond ?_ ?_ | refine Le.ite ?_ ?_ | refine Le.thenS ?_ (fun _ => ?_) (fun _ => ?_) | refine Le.loop (fun _ => ?_) _ | refine Le.loopL (fun _ _ => ?_) _ _
def world_Stopc (p1 : Int) (p2 : Int) : Option Int :=
  cond ((decide (p1 < 1)) || (decide (p2 < 1))) (some 0) ((quoc .i64 (w64 ((mm2 false p1 1000000) - 1)) (mm2 false p2 1000000)).bind fun v1 => some (w64 ((w64 (v1 * (mm2 false p1 1000000))) - (w64 ((mm2 false p2 1000000) * (w64 ((w64 (v1 * (w64 (v1 + 1)))).tdiv 2)))))))
theorem world_Stop_le (p1 : Int) (p2 : Int) : Le (world_Stopc p1 p2) (world_Stop p1 p2) := by
  unfold world_Stopc world_Stop
  repeat' first | exact Le.refl _ | refine Le.bind ?_ fun _ => ?_ | refine Le.cond ?_ ?_ | refine Le.ite ?_ ?_ | refine Le.thenS ?_ (fun _ => ?_) (fun _ => ?_) | refine Le.loop (fun _ => ?_) _ | refine Le.loopL (fun _ _ => ?_) _ _
def convoy_stopc (p1 : Int) : Option Int :=
  (world_Stopc p1 90).bind fun v1 => some v1
theorem convoy_stop_le (p1 : Int) : Le (convoy_stopc p1) (convoy_stop p1) := by
  unfold convoy_stopc convoy_stop
  repeat' first | exact Le.refl _ | exact world_Stop_le _ _ | refine Le.bind ?_ fun _ => ?_ | refine Le.cond ?_ ?_ | refine Le.ite ?_ ?_ | refine Le.thenS ?_ (fun _ => ?_) (fun _ => ?_) | refine Le.loop (fun _ => ?_) _ | refine Le.loopL (fun _ _ => ?_) _ _
def convoy_endc (p1 : Guess) : Option Int :=
  (convoy_stopc p1.V).bind fun v1 => some (w64 (p1.R + v1))
theorem convoy_end_le (p1 : Guess) : Le (convoy_endc p1) (convoy_end p1) := by
  unfold convoy_endc convoy_end
  repeat' first | exact Le.refl _ | exact convoy_stop_le _ | refine Le.bind ?_ fun _ => ?_ | refine Le.cond ?_ ?_ | refine Le.ite ?_ ?_ | refine Le.thenS ?_ (fun _ => ?_) (fun _ => ?_) | refine Le.loop (fun _ => ?_) _ | refine Le.loopL (fun _ _ => ?_) _ _
def convoy_Safec (p1 : Int) (p2 : Int) (p3 : Int) (p4 : Guess) : Option Bool :=
  (convoy_sanec [p1, p2, p3, p4.R, p4.V]).bind fun v1 => ((cond (v1 && (decide (p1 ≤ (w64 (p4.R - p3))))) (convoy_stopc p2) (some default))).bind fun v2 => ((cond (v1 && (decide (p1 ≤ (w64 (p4.R - p3))))) (convoy_endc p4) (some default))).bind fun v3 => some ((v1 && (decide (p1 ≤ (w64 (p4.R - p3))))) && (decide ((w64 (p1 + v2)) ≤ (w64 (v3 - p3)))))
theorem convoy_Safe_le (p1 : Int) (p2 : Int) (p3 : Int) (p4 : Guess) : Le (convoy_Safec p1 p2 p3 p4) (convoy_Safe p1 p2 p3 p4) := by
  unfold convoy_Safec convoy_Safe
  repeat' first | exact Le.refl _ | exact convoy_sane_le _ | exact convoy_stop_le _ | exact convoy_end_le _ | refine Le.bind ?_ fun _ => ?_ | refine Le.cond ?_ ?_ | refine Le.ite ?_ ?_ | refine Le.thenS ?_ (fun _ => ?_) (fun _ => ?_) | refine Le.loop (fun _ => ?_) _ | refine Le.loopL (fun _ _ => ?_) _ _
def convoy_keepsc (p1 : Int) (p2 : Mate) (p3 : Int) (p4 : Int) (p5 : Guess) (p6 : Guess) : Option Bool :=
  ((cond (!(p2.Ahead == 0)) (convoy_Safec p3 p4 p1 p5) (some default))).bind fun v1 => ((cond (((p2.Ahead == 0) || v1) && (!(p2.Until == 0))) (convoy_Safec p3 p4 p1 p6) (some default))).bind fun v2 => some (((p2.Ahead == 0) || v1) && ((p2.Until == 0) || v2))
theorem convoy_keeps_le (p1 : Int) (p2 : Mate) (p3 : Int) (p4 : Int) (p5 : Guess) (p6 : Guess) : Le (convoy_keepsc p1 p2 p3 p4 p5 p6) (convoy_keeps p1 p2 p3 p4 p5 p6) := by
  unfold convoy_keepsc convoy_keeps
  repeat' first | exact Le.refl _ | exact convoy_Safe_le _ _ _ _ | refine Le.bind ?_ fun _ => ?_ | refine Le.cond ?_ ?_ | refine Le.ite ?_ ?_ | refine Le.thenS ?_ (fun _ => ?_) (fun _ => ?_) | refine Le.loop (fun _ => ?_) _ | refine Le.loopL (fun _ _ => ?_) _ _
def convoy_Check_1_bc (p1 : Mate) (p2 : Convoy) : Option Bool :=
  (convoy_keepsc p2.Gap p1 p1.S p1.V p1.Guess_ p1.WardGuess).bind fun v1 => some (!v1)
theorem convoy_Check_1_b_le (p1 : Mate) (p2 : Convoy) : Le (convoy_Check_1_bc p1 p2) (convoy_Check_1_b p1 p2) := by
  unfold convoy_Check_1_bc convoy_Check_1_b
  repeat' first | exact Le.refl _ | exact convoy_keeps_le _ _ _ _ _ _ | refine Le.bind ?_ fun _ => ?_ | refine Le.cond ?_ ?_ | refine Le.ite ?_ ?_ | refine Le.thenS ?_ (fun _ => ?_) (fun _ => ?_) | refine Le.loop (fun _ => ?_) _ | refine Le.loopL (fun _ _ => ?_) _ _
def slices_IndexFunc_Mate_Mate_convoy_Check_1b_l1c (p1 : (List Mate)) (p2 : Convoy) (x1 : Int) : Option (Stp Int (Sum Unit Int)) :=
  cond (decide (x1 < (p1.length : Int))) ((geti p1 x1).bind fun v1 => (convoy_Check_1_bc v1 p2).bind fun v2 => cond v2 (some (.out (.inr x1))) (some (.go (w64 (x1 + 1))))) (some (.out (.inl ())))
theorem slices_IndexFunc_Mate_Mate_convoy_Check_1b_l1_le (p1 : (List Mate)) (p2 : Convoy) (x1 : Int) : Le (slices_IndexFunc_Mate_Mate_convoy_Check_1b_l1c p1 p2 x1) (slices_IndexFunc_Mate_Mate_convoy_Check_1b_l1 p1 p2 x1) := by
  unfold slices_IndexFunc_Mate_Mate_convoy_Check_1b_l1c slices_IndexFunc_Mate_Mate_convoy_Check_1b_l1
  repeat' first | exact Le.refl _ | exact convoy_Check_1_b_le _ _ | refine Le.bind ?_ fun _ => ?_ | refine Le.cond ?_ ?_ | refine Le.ite ?_ ?_ | refine Le.thenS ?_ (fun _ => ?_) (fun _ => ?_) | refine Le.loop (fun _ => ?_) _ | refine Le.loopL (fun _ _ => ?_) _ _
def slices_IndexFunc_Mate_Mate_convoy_Check_1bc (p1 : (List Mate)) (p2 : Convoy) : Option Int :=
  thenS (loopF (slices_IndexFunc_Mate_Mate_convoy_Check_1b_l1c p1 p2) 0) (fun _ => some (-1)) (fun r => some r)
theorem slices_IndexFunc_Mate_Mate_convoy_Check_1b_le (p1 : (List Mate)) (p2 : Convoy) : Le (slices_IndexFunc_Mate_Mate_convoy_Check_1bc p1 p2) (slices_IndexFunc_Mate_Mate_convoy_Check_1b p1 p2) := by
  unfold slices_IndexFunc_Mate_Mate_convoy_Check_1bc slices_IndexFunc_Mate_Mate_convoy_Check_1b
  repeat' first | exact Le.refl _ | exact slices_IndexFunc_Mate_Mate_convoy_Check_1b_l1_le _ _ _ | refine Le.bind ?_ fun _ => ?_ | refine Le.cond ?_ ?_ | refine Le.ite ?_ ?_ | refine Le.thenS ?_ (fun _ => ?_) (fun _ => ?_) | refine Le.loop (fun _ => ?_) _ | refine Le.loopL (fun _ _ => ?_) _ _
def slices_ContainsFunc_Mate_Mate_convoy_Check_1bc (p1 : (List Mate)) (p2 : Convoy) : Option Bool :=
  (slices_IndexFunc_Mate_Mate_convoy_Check_1bc p1 p2).bind fun v1 => some (decide (v1 ≥ 0))
theorem slices_ContainsFunc_Mate_Mate_convoy_Check_1b_le (p1 : (List Mate)) (p2 : Convoy) : Le (slices_ContainsFunc_Mate_Mate_convoy_Check_1bc p1 p2) (slices_ContainsFunc_Mate_Mate_convoy_Check_1b p1 p2) := by
  unfold slices_ContainsFunc_Mate_Mate_convoy_Check_1bc slices_ContainsFunc_Mate_Mate_convoy_Check_1b
  repeat' first | exact Le.refl _ | exact slices_IndexFunc_Mate_Mate_convoy_Check_1b_le _ _ | refine Le.bind ?_ fun _ => ?_ | refine Le.cond ?_ ?_ | refine Le.ite ?_ ?_ | refine Le.thenS ?_ (fun _ => ?_) (fun _ => ?_) | refine Le.loop (fun _ => ?_) _ | refine Le.loopL (fun _ _ => ?_) _ _
def convoy_Check_l1c (p1 : Convoy) (x1 : Int) : Option (Stp Int (Sum Unit Int)) :=
  cond (decide (x1 < (p1.Mates.length : Int))) ((geti p1.Mates x1).bind fun v3 => cond ((((x1 == 0) && (v3.Ahead != 0)) || (((decide (x1 > 0)) && (v3.Until == 0)) && (v3.Ahead == 0))) || ((v3.Ward == 0) && (v3.Until != 0))) (some (.out (.inr 10))) (some (.go (w64 (x1 + 1))))) (some (.out (.inl ())))
theorem convoy_Check_l1_le (p1 : Convoy) (x1 : Int) : Le (convoy_Check_l1c p1 x1) (convoy_Check_l1 p1 x1) := by
  unfold convoy_Check_l1c convoy_Check_l1
  repeat' first | exact Le.refl _ | refine Le.bind ?_ fun _ => ?_ | refine Le.cond ?_ ?_ | refine Le.ite ?_ ?_ | refine Le.thenS ?_ (fun _ => ?_) (fun _ => ?_) | refine Le.loop (fun _ => ?_) _ | refine Le.loopL (fun _ _ => ?_) _ _
def convoy_Checkc (p1 : Convoy) : Option Int :=
  (convoy_numbersc p1).bind fun v1 => cond (v1 != 0) (some v1) ((convoy_ordersc p1).bind fun v2 => cond (v2 != 0) (some v2) (thenS (loopF (convoy_Check_l1c p1) 0) (fun _ => (slices_ContainsFunc_Mate_Mate_convoy_Check_1bc p1.Mates p1).bind fun v4 => ((cond ((!v4) && (p1.Guest_.ID != 0)) (convoy_stopc p1.Guest_.V) (some default))).bind fun v5 => cond (v4 || ((p1.Guest_.ID != 0) && (decide ((w64 (p1.Guest_.S + v5)) ≥ p1.Guest_.End)))) (some 12) (some 0)) (fun r => some r)))
theorem convoy_Check_le (p1 : Convoy) : Le (convoy_Checkc p1) (convoy_Check p1) := by
  unfold convoy_Checkc convoy_Check
  repeat' first | exact Le.refl _ | exact convoy_numbers_le _ | exact convoy_orders_le _ | exact convoy_Check_l1_le _ _ | exact slices_ContainsFunc_Mate_Mate_convoy_Check_1b_le _ _ | exact convoy_stop_le _ | refine Le.bind ?_ fun _ => ?_ | refine Le.cond ?_ ?_ | refine Le.ite ?_ ?_ | refine Le.thenS ?_ (fun _ => ?_) (fun _ => ?_) | refine Le.loop (fun _ => ?_) _ | refine Le.loopL (fun _ _ => ?_) _ _
def convoy_New_l1c (p2 : (List Mate)) (x1 : (Int × Convoy)) : Option (Stp (Int × Convoy) Convoy) :=
  cond (decide (x1.1 < (p2.length : Int))) ((geti p2 x1.1).bind fun v1 => (cond (decide (x1.1 > 0)) ((geti p2 (w64 (x1.1 - 1))).bind fun v2 => (geti p2 (w64 (x1.1 - 1))).bind fun v3 => (geti p2 (w64 (x1.1 - 1))).bind fun v4 => some (Mate.mk (w64 (x1.1 + 1)) v1.S v1.V v1.Len x1.1 (Guess.mk (w64 (v2.S - v3.Len)) v4.V) true 0 (Guess.mk 0 0) 0)) (some (Mate.mk (w64 (x1.1 + 1)) v1.S v1.V v1.Len 0 (Guess.mk 0 0) true 0 (Guess.mk 0 0) 0))).bind fun y2 => (appc x1.2.Mates [y2]).bind fun v5 => some (.go ((w64 (x1.1 + 1)), (Convoy.mk x1.2.Tick x1.2.Gap v5 x1.2.Guest_)))) (some (.out x1.2))
theorem convoy_New_l1_le (p2 : (List Mate)) (x1 : (Int × Convoy)) : Le (convoy_New_l1c p2 x1) (convoy_New_l1 p2 x1) := by
  unfold convoy_New_l1c convoy_New_l1
  repeat' first | exact Le.refl _ | refine Le.bind ?_ fun _ => ?_ | refine Le.cond ?_ ?_ | refine Le.ite ?_ ?_ | refine Le.thenS ?_ (fun _ => ?_) (fun _ => ?_) | refine Le.loop (fun _ => ?_) _ | refine Le.loopL (fun _ _ => ?_) _ _
def convoy_Newc (p1 : Int) (p2 : (List Mate)) : Option (Convoy × Int) :=
  (loopF (convoy_New_l1c p2) (0, (Convoy.mk 0 p1 [] (Guest.mk 0 0 0 0 0 0 (Guess.mk 0 0) 0 0)))).bind fun y1 => (convoy_Checkc y1).bind fun v6 => cond (v6 != 0) (some ((Convoy.mk 0 0 [] (Guest.mk 0 0 0 0 0 0 (Guess.mk 0 0) 0 0)), v6)) (some (y1, 0))
theorem convoy_New_le (p1 : Int) (p2 : (List Mate)) : Le (convoy_Newc p1 p2) (convoy_New p1 p2) := by
  unfold convoy_Newc convoy_New
  repeat' first | exact Le.refl _ | exact convoy_New_l1_le _ _ | exact convoy_Check_le _ | refine Le.bind ?_ fun _ => ?_ | refine Le.cond ?_ ?_ | refine Le.ite ?_ ?_ | refine Le.thenS ?_ (fun _ => ?_) (fun _ => ?_) | refine Le.loop (fun _ => ?_) _ | refine Le.loopL (fun _ _ => ?_) _ _
def law09_shownc : Option Convoy :=
  (convoy_Newc 1000 [(Mate.mk 0 50000 1000 4000 0 (Guess.mk 0 0) false 0 (Guess.mk 0 0) 0), (Mate.mk 0 40000 1000 4000 0 (Guess.mk 0 0) false 0 (Guess.mk 0 0) 0)]).bind fun v1 => cond ((v1.2 != 0) || ((v1.1.Mates.length : Int) != 2)) (some (Convoy.mk 0 0 [] (Guest.mk 0 0 0 0 0 0 (Guess.mk 0 0) 0 0))) (some v1.1)
theorem law09_shown_le : Le (law09_shownc) (law09_shown) := by
  unfold law09_shownc law09_shown
  repeat' first | exact Le.refl _ | exact convoy_New_le _ _ | refine Le.bind ?_ fun _ => ?_ | refine Le.cond ?_ ?_ | refine Le.ite ?_ ?_ | refine Le.thenS ?_ (fun _ => ?_) (fun _ => ?_) | refine Le.loop (fun _ => ?_) _ | refine Le.loopL (fun _ _ => ?_) _ _
def convoy_Age_l1c (p2 : Int) (x1 : (Int × Guess)) : Option (Stp (Int × Guess) Guess) :=
  cond (decide (x1.1 < (mm2 true 0 (mm2 false p2 30)))) (some (.go ((w64 (x1.1 + 1)), (Guess.mk (w64 (x1.2.R + (mm2 true 0 (w64 (x1.2.V - 90))))) (mm2 true 0 (w64 (x1.2.V - 90))))))) (some (.out x1.2))
theorem convoy_Age_l1_le (p2 : Int) (x1 : (Int × Guess)) : Le (convoy_Age_l1c p2 x1) (convoy_Age_l1 p2 x1) := by
  unfold convoy_Age_l1c convoy_Age_l1
  repeat' first | exact Le.refl _ | refine Le.bind ?_ fun _ => ?_ | refine Le.cond ?_ ?_ | refine Le.ite ?_ ?_ | refine Le.thenS ?_ (fun _ => ?_) (fun _ => ?_) | refine Le.loop (fun _ => ?_) _ | refine Le.loopL (fun _ _ => ?_) _ _
def convoy_Agec (p1 : Guess) (p2 : Int) : Option Guess :=
  (convoy_sanec [p1.R, p1.V]).bind fun v1 => cond (!v1) (some (Guess.mk 0 0)) ((loopF (convoy_Age_l1c p2) (0, p1)).bind fun y1 => some y1)
theorem convoy_Age_le (p1 : Guess) (p2 : Int) : Le (convoy_Agec p1 p2) (convoy_Age p1 p2) := by
  unfold convoy_Agec convoy_Age
  repeat' first | exact Le.refl _ | exact convoy_sane_le _ | exact convoy_Age_l1_le _ _ | refine Le.bind ?_ fun _ => ?_ | refine Le.cond ?_ ?_ | refine Le.ite ?_ ?_ | refine Le.thenS ?_ (fun _ => ?_) (fun _ => ?_) | refine Le.loop (fun _ => ?_) _ | refine Le.loopL (fun _ _ => ?_) _ _
def convoy_find_1_bc (p1 : Mate) (p2 : Int) : Option Bool :=
  some (p1.ID == p2)
theorem convoy_find_1_b_le (p1 : Mate) (p2 : Int) : Le (convoy_find_1_bc p1 p2) (convoy_find_1_b p1 p2) := by
  unfold convoy_find_1_bc convoy_find_1_b
  repeat' first | exact Le.refl _ | refine Le.bind ?_ fun _ => ?_ | refine Le.cond ?_ ?_ | refine Le.ite ?_ ?_ | refine Le.thenS ?_ (fun _ => ?_) (fun _ => ?_) | refine Le.loop (fun _ => ?_) _ | refine Le.loopL (fun _ _ => ?_) _ _
def slices_IndexFunc_Mate_Mate_convoy_find_1b_l1c (p1 : (List Mate)) (p2 : Int) (x1 : Int) : Option (Stp Int (Sum Unit Int)) :=
  cond (decide (x1 < (p1.length : Int))) ((geti p1 x1).bind fun v1 => (convoy_find_1_bc v1 p2).bind fun v2 => cond v2 (some (.out (.inr x1))) (some (.go (w64 (x1 + 1))))) (some (.out (.inl ())))
theorem slices_IndexFunc_Mate_Mate_convoy_find_1b_l1_le (p1 : (List Mate)) (p2 : Int) (x1 : Int) : Le (slices_IndexFunc_Mate_Mate_convoy_find_1b_l1c p1 p2 x1) (slices_IndexFunc_Mate_Mate_convoy_find_1b_l1 p1 p2 x1) := by
  unfold slices_IndexFunc_Mate_Mate_convoy_find_1b_l1c slices_IndexFunc_Mate_Mate_convoy_find_1b_l1
  repeat' first | exact Le.refl _ | exact convoy_find_1_b_le _ _ | refine Le.bind ?_ fun _ => ?_ | refine Le.cond ?_ ?_ | refine Le.ite ?_ ?_ | refine Le.thenS ?_ (fun _ => ?_) (fun _ => ?_) | refine Le.loop (fun _ => ?_) _ | refine Le.loopL (fun _ _ => ?_) _ _
def slices_IndexFunc_Mate_Mate_convoy_find_1bc (p1 : (List Mate)) (p2 : Int) : Option Int :=
  thenS (loopF (slices_IndexFunc_Mate_Mate_convoy_find_1b_l1c p1 p2) 0) (fun _ => some (-1)) (fun r => some r)
theorem slices_IndexFunc_Mate_Mate_convoy_find_1b_le (p1 : (List Mate)) (p2 : Int) : Le (slices_IndexFunc_Mate_Mate_convoy_find_1bc p1 p2) (slices_IndexFunc_Mate_Mate_convoy_find_1b p1 p2) := by
  unfold slices_IndexFunc_Mate_Mate_convoy_find_1bc slices_IndexFunc_Mate_Mate_convoy_find_1b
  repeat' first | exact Le.refl _ | exact slices_IndexFunc_Mate_Mate_convoy_find_1b_l1_le _ _ _ | refine Le.bind ?_ fun _ => ?_ | refine Le.cond ?_ ?_ | refine Le.ite ?_ ?_ | refine Le.thenS ?_ (fun _ => ?_) (fun _ => ?_) | refine Le.loop (fun _ => ?_) _ | refine Le.loopL (fun _ _ => ?_) _ _
def convoy_findc (p1 : (List Mate)) (p2 : Int) : Option Int :=
  (slices_IndexFunc_Mate_Mate_convoy_find_1bc p1 p2).bind fun v1 => some v1
theorem convoy_find_le (p1 : (List Mate)) (p2 : Int) : Le (convoy_findc p1 p2) (convoy_find p1 p2) := by
  unfold convoy_findc convoy_find
  repeat' first | exact Le.refl _ | exact slices_IndexFunc_Mate_Mate_convoy_find_1b_le _ _ | refine Le.bind ?_ fun _ => ?_ | refine Le.cond ?_ ?_ | refine Le.ite ?_ ?_ | refine Le.thenS ?_ (fun _ => ?_) (fun _ => ?_) | refine Le.loop (fun _ => ?_) _ | refine Le.loopL (fun _ _ => ?_) _ _
def convoy_Belowc (p1 : Guess) (p2 : Int) (p3 : Int) : Option Bool :=
  (convoy_sanec [p1.R, p1.V, p2, p3]).bind fun v1 => ((cond (v1 && (decide (p1.R ≤ p2))) (convoy_endc p1) (some default))).bind fun v2 => ((cond (v1 && (decide (p1.R ≤ p2))) (convoy_stopc p3) (some default))).bind fun v3 => some ((v1 && (decide (p1.R ≤ p2))) && (decide (v2 ≤ (w64 (p2 + v3)))))
theorem convoy_Below_le (p1 : Guess) (p2 : Int) (p3 : Int) : Le (convoy_Belowc p1 p2 p3) (convoy_Below p1 p2 p3) := by
  unfold convoy_Belowc convoy_Below
  repeat' first | exact Le.refl _ | exact convoy_sane_le _ | exact convoy_end_le _ | exact convoy_stop_le _ | refine Le.bind ?_ fun _ => ?_ | refine Le.cond ?_ ?_ | refine Le.ite ?_ ?_ | refine Le.thenS ?_ (fun _ => ?_) (fun _ => ?_) | refine Le.loop (fun _ => ?_) _ | refine Le.loopL (fun _ _ => ?_) _ _
def convoy_holdsc (p1 : (List Mate)) (p2 : Int) (p3 : Guess) : Option Bool :=
  (convoy_findc p1 p2).bind fun v1 => ((cond (decide (v1 ≥ 0)) (geti p1 v1) (some default))).bind fun v2 => ((cond (decide (v1 ≥ 0)) (convoy_rearc v2) (some default))).bind fun v3 => ((cond (decide (v1 ≥ 0)) (geti p1 v1) (some default))).bind fun v4 => ((cond (decide (v1 ≥ 0)) (convoy_Belowc p3 v3 v4.V) (some default))).bind fun v5 => some ((decide (v1 ≥ 0)) && v5)
theorem convoy_holds_le (p1 : (List Mate)) (p2 : Int) (p3 : Guess) : Le (convoy_holdsc p1 p2 p3) (convoy_holds p1 p2 p3) := by
  unfold convoy_holdsc convoy_holds
  repeat' first | exact Le.refl _ | exact convoy_find_le _ _ | exact convoy_rear_le _ | exact convoy_Below_le _ _ _ | refine Le.bind ?_ fun _ => ?_ | refine Le.cond ?_ ?_ | refine Le.ite ?_ ?_ | refine Le.thenS ?_ (fun _ => ?_) (fun _ => ?_) | refine Le.loop (fun _ => ?_) _ | refine Le.loopL (fun _ _ => ?_) _ _
def convoy_Sound_l1c (p1 : Convoy) (x1 : Int) : Option (Stp Int (Sum Unit Bool)) :=
  cond (decide (x1 < (p1.Mates.length : Int))) ((geti p1.Mates x1).bind fun v2 => ((cond (v2.Ahead != 0) (subl p1.Mates 0 x1) (some default))).bind fun v3 => ((cond (v2.Ahead != 0) (convoy_holdsc v3 v2.Ahead v2.Guess_) (some default))).bind fun v4 => cond ((v2.Ahead != 0) && (!v4)) (some (.out (.inr false))) (((cond (v2.Until != 0) (subl p1.Mates 0 x1) (some default))).bind fun v5 => ((cond (v2.Until != 0) (convoy_findc v5 v2.Ward) (some default))).bind fun v6 => ((cond ((v2.Until != 0) && (decide (v6 ≥ 0))) (subl p1.Mates 0 x1) (some default))).bind fun v7 => ((cond ((v2.Until != 0) && (decide (v6 ≥ 0))) (convoy_holdsc v7 v2.Ward v2.WardGuess) (some default))).bind fun v8 => cond (((v2.Until != 0) && (decide (v6 ≥ 0))) && (!v8)) (some (.out (.inr false))) (((cond ((v2.Until != 0) && (v2.Ward == p1.Guest_.ID)) (convoy_Belowc v2.WardGuess (w64 (p1.Guest_.S - p1.Guest_.Len)) p1.Guest_.V) (some default))).bind fun v9 => cond (((v2.Until != 0) && (v2.Ward == p1.Guest_.ID)) && (!v9)) (some (.out (.inr false))) (((cond (decide (x1 > 0)) (geti p1.Mates (w64 (x1 - 1))) (some default))).bind fun v10 => ((cond (((decide (x1 > 0)) && (v10.ID != v2.Ahead)) && (!(v2.Until == 0))) (geti p1.Mates (w64 (x1 - 1))) (some default))).bind fun v11 => cond (((decide (x1 > 0)) && (v10.ID != v2.Ahead)) && ((v2.Until == 0) || (v11.ID != v2.Ward))) (some (.out (.inr false))) (some (.go (w64 (x1 + 1)))))))) (some (.out (.inl ())))
theorem convoy_Sound_l1_le (p1 : Convoy) (x1 : Int) : Le (convoy_Sound_l1c p1 x1) (convoy_Sound_l1 p1 x1) := by
  unfold convoy_Sound_l1c convoy_Sound_l1
  repeat' first | exact Le.refl _ | exact convoy_holds_le _ _ _ | exact convoy_find_le _ _ | exact convoy_Below_le _ _ _ | refine Le.bind ?_ fun _ => ?_ | refine Le.cond ?_ ?_ | refine Le.ite ?_ ?_ | refine Le.thenS ?_ (fun _ => ?_) (fun _ => ?_) | refine Le.loop (fun _ => ?_) _ | refine Le.loopL (fun _ _ => ?_) _ _
def convoy_Soundc (p1 : Convoy) : Option Bool :=
  (convoy_Checkc p1).bind fun v1 => cond (v1 != 0) (some false) (thenS (loopF (convoy_Sound_l1c p1) 0) (fun _ => ((cond (!(p1.Guest_.Ahead == 0)) (convoy_holdsc p1.Mates p1.Guest_.Ahead p1.Guest_.Guess_) (some default))).bind fun v12 => some ((p1.Guest_.Ahead == 0) || v12)) (fun r => some r))
theorem convoy_Sound_le (p1 : Convoy) : Le (convoy_Soundc p1) (convoy_Sound p1) := by
  unfold convoy_Soundc convoy_Sound
  repeat' first | exact Le.refl _ | exact convoy_Check_le _ | exact convoy_Sound_l1_le _ _ | exact convoy_holds_le _ _ _ | refine Le.bind ?_ fun _ => ?_ | refine Le.cond ?_ ?_ | refine Le.ite ?_ ?_ | refine Le.thenS ?_ (fun _ => ?_) (fun _ => ?_) | refine Le.loop (fun _ => ?_) _ | refine Le.loopL (fun _ _ => ?_) _ _
def convoy_Gaps_l1c (p1 : Convoy) (x1 : ((List Int) × Int)) : Option (Stp ((List Int) × Int) (List Int)) :=
  cond (decide (x1.2 < (p1.Mates.length : Int))) ((geti p1.Mates (w64 (x1.2 - 1))).bind fun v2 => (convoy_rearc v2).bind fun v3 => (geti p1.Mates x1.2).bind fun v4 => (appc x1.1 [(w64 (v3 - v4.S))]).bind fun v5 => some (.go (v5, (w64 (x1.2 + 1))))) (some (.out x1.1))
theorem convoy_Gaps_l1_le (p1 : Convoy) (x1 : ((List Int) × Int)) : Le (convoy_Gaps_l1c p1 x1) (convoy_Gaps_l1 p1 x1) := by
  unfold convoy_Gaps_l1c convoy_Gaps_l1
  repeat' first | exact Le.refl _ | exact convoy_rear_le _ | refine Le.bind ?_ fun _ => ?_ | refine Le.cond ?_ ?_ | refine Le.ite ?_ ?_ | refine Le.thenS ?_ (fun _ => ?_) (fun _ => ?_) | refine Le.loop (fun _ => ?_) _ | refine Le.loopL (fun _ _ => ?_) _ _
def convoy_Gapsc (p1 : Convoy) : Option (List Int) :=
  (convoy_Checkc p1).bind fun v1 => cond (v1 != 0) (some []) ((loopF (convoy_Gaps_l1c p1) ([], 1)).bind fun y1 => some y1)
theorem convoy_Gaps_le (p1 : Convoy) : Le (convoy_Gapsc p1) (convoy_Gaps p1) := by
  unfold convoy_Gapsc convoy_Gaps
  repeat' first | exact Le.refl _ | exact convoy_Check_le _ | exact convoy_Gaps_l1_le _ _ | refine Le.bind ?_ fun _ => ?_ | refine Le.cond ?_ ?_ | refine Le.ite ?_ ?_ | refine Le.thenS ?_ (fun _ => ?_) (fun _ => ?_) | refine Le.loop (fun _ => ?_) _ | refine Le.loopL (fun _ _ => ?_) _ _
def kit_SameLongs_l1c (p1 : (List Int)) (p2 : (List Int)) (x1 : Int) : Option (Stp Int (Sum Unit Bool)) :=
  cond ((decide (x1 < (p1.length : Int))) && (decide (x1 < (p2.length : Int)))) ((geti p1 x1).bind fun v1 => (geti p2 x1).bind fun v2 => cond (v1 != v2) (some (.out (.inr false))) (some (.go (w64 (x1 + 1))))) (some (.out (.inl ())))
theorem kit_SameLongs_l1_le (p1 : (List Int)) (p2 : (List Int)) (x1 : Int) : Le (kit_SameLongs_l1c p1 p2 x1) (kit_SameLongs_l1 p1 p2 x1) := by
  unfold kit_SameLongs_l1c kit_SameLongs_l1
  repeat' first | exact Le.refl _ | refine Le.bind ?_ fun _ => ?_ | refine Le.cond ?_ ?_ | refine Le.ite ?_ ?_ | refine Le.thenS ?_ (fun _ => ?_) (fun _ => ?_) | refine Le.loop (fun _ => ?_) _ | refine Le.loopL (fun _ _ => ?_) _ _
def kit_SameLongsc (p1 : (List Int)) (p2 : (List Int)) : Option Bool :=
  thenS (loopF (kit_SameLongs_l1c p1 p2) 0) (fun _ => some ((p1.length : Int) == (p2.length : Int))) (fun r => some r)
theorem kit_SameLongs_le (p1 : (List Int)) (p2 : (List Int)) : Le (kit_SameLongsc p1 p2) (kit_SameLongs p1 p2) := by
  unfold kit_SameLongsc kit_SameLongs
  repeat' first | exact Le.refl _ | exact kit_SameLongs_l1_le _ _ _ | refine Le.bind ?_ fun _ => ?_ | refine Le.cond ?_ ?_ | refine Le.ite ?_ ?_ | refine Le.thenS ?_ (fun _ => ?_) (fun _ => ?_) | refine Le.loop (fun _ => ?_) _ | refine Le.loopL (fun _ _ => ?_) _ _
def law09_awakec : Option Bool :=
  (law09_shownc).bind fun v1 => ((cond ((v1.Mates.length : Int) == 2) (convoy_Agec (Guess.mk 0 200) 2) (some default))).bind fun v2 => ((cond (((v1.Mates.length : Int) == 2) && (v2.R == 130 && (v2.V == 20 && true))) (convoy_Soundc v1) (some default))).bind fun v3 => ((cond ((((v1.Mates.length : Int) == 2) && (v2.R == 130 && (v2.V == 20 && true))) && v3) (convoy_Gapsc v1) (some default))).bind fun v4 => ((cond ((((v1.Mates.length : Int) == 2) && (v2.R == 130 && (v2.V == 20 && true))) && v3) (kit_SameLongsc v4 [6000]) (some default))).bind fun v5 => ((cond (((((v1.Mates.length : Int) == 2) && (v2.R == 130 && (v2.V == 20 && true))) && v3) && v5) (convoy_Safec 0 191 1000 (Guess.mk 1000 100)) (some default))).bind fun v6 => some ((((((v1.Mates.length : Int) == 2) && (v2.R == 130 && (v2.V == 20 && true))) && v3) && v5) && (!v6))
theorem law09_awake_le : Le (law09_awakec) (law09_awake) := by
  unfold law09_awakec law09_awake
  repeat' first | exact Le.refl _ | exact law09_shown_le | exact convoy_Age_le _ _ | exact convoy_Sound_le _ | exact convoy_Gaps_le _ | exact kit_SameLongs_le _ _ | exact convoy_Safe_le _ _ _ _ | refine Le.bind ?_ fun _ => ?_ | refine Le.cond ?_ ?_ | refine Le.ite ?_ ?_ | refine Le.thenS ?_ (fun _ => ?_) (fun _ => ?_) | refine Le.loop (fun _ => ?_) _ | refine Le.loopL (fun _ _ => ?_) _ _
end Go.Abs.Convoy

namespace Go.Abs.Convoy
open Go Go.Abs
theorem awake_eq : law09_awake = some true := law09_awake_le _ (by decide +kernel)
end Go.Abs.Convoy

namespace Go.Abs.Convoy
open Go Go.Abs

theorem cond_some {α : Type} (c : Bool) (a b : α) : cond c (some a) (some b) = some (cond c a b) := by cases c <;> rfl
/-- The place of the first element with a property. -/
theorem index_loop {α : Type} {f : Int → Option (Stp Int (Sum Unit Int))} (l : List α) (P : α → Bool) (hl : l.length ≤ 1000000000) (hf : ∀ (i : Nat) a, l[i]? = some a → f (i : Int) = some (if P a then .out (.inr (i : Int)) else .go (w64 ((i : Int) + 1)))) (he : f (l.length : Int) = some (.out (.inl ()))) :
    loop f 0 = some (match l.findIdx? P with | some i => .inr (i : Int) | none => .inl ()) := by
  have key : ∀ (r : List α) (i : Nat), l.drop i = r → i ≤ l.length → loop f (i : Int) = some (match r.findIdx? P with | some j => .inr ((i + j : Nat) : Int) | none => .inl ()) := by
    intro r
    induction r with
    | nil =>
      intro i hi hil
      have := drop_nil hi
      obtain rfl : i = l.length := by omega
      rw [loop_out he]; rfl
    | cons a r ih =>
      intro i hi _
      have hlt := drop_lt hi
      have h0 : l[i]? = some a := by have := congrArg (fun z => z[0]?) hi; simpa using this
      have hs := hf i a h0
      rw [List.findIdx?_cons]
      by_cases hp : P a = true
      · rw [if_pos hp] at hs
        rw [loop_out hs, if_pos hp]; simp
      · rw [if_neg hp] at hs
        rw [w64_id (by omega)] at hs
        rw [loop_go hs, show ((i : Int) + 1) = ((i + 1 : Nat) : Int) by omega, ih (i + 1) (drop_succ hi) (by omega), if_neg hp]
        cases r.findIdx? P with
        | none => rfl
        | some j => simp only [Option.map_some]; congr 3; omega
  have := key l 0 rfl (by omega)
  rw [show ((0 : Nat) : Int) = 0 from rfl] at this
  rw [this]
  cases l.findIdx? P <;> simp
/-- -1, or the place. -/
def idxI {α : Type} (P : α → Bool) (l : List α) : Int := match l.findIdx? P with | some i => (i : Int) | none => -1
theorem idxI_any {α : Type} (P : α → Bool) (l : List α) : decide (idxI P l ≥ 0) = l.any P := by
  unfold idxI
  cases h : l.findIdx? P with
  | none =>
    have := List.findIdx?_eq_none_iff.1 h
    rw [show l.any P = false by rw [List.any_eq_false]; intro x hx; simpa using this x hx]
    decide
  | some i =>
    have := List.findIdx?_isSome (xs := l) (p := P)
    rw [h] at this
    rw [← this]
    simp
/-- What both twins compute of a list. -/
theorem index_eq {α : Type} {f : Int → Option (Stp Int (Sum Unit Int))} (l : List α) (P : α → Bool) (hl : l.length ≤ 1000000000) (hf : ∀ (i : Nat) a, l[i]? = some a → f (i : Int) = some (if P a then .out (.inr (i : Int)) else .go (w64 ((i : Int) + 1)))) (he : f (l.length : Int) = some (.out (.inl ()))) :
    thenS (loop f 0) (fun _ => some (-1)) (fun r => some r) = some (idxI P l) := by
  rw [index_loop l P hl hf he]
  unfold idxI
  cases l.findIdx? P <;> rfl
theorem geti_some {α : Type} {l : List α} {i : Nat} {a : α} (h : l[i]? = some a) : geti l (i : Int) = some a := by
  unfold geti
  rw [if_pos (by omega), Int.toNat_natCast, h]
theorem get_lt {α : Type} {l : List α} {i : Nat} {a : α} (h : l[i]? = some a) : i < l.length := (List.getElem?_eq_some_iff.1 h).1

/-! ### Numbers that can be computed with -/
def sane1 (n : Int) : Bool := decide (-4398046511104 ≤ n) && decide (n ≤ 4398046511104)
def saneM (l : List Int) : Bool := l.all sane1
theorem convoy_sane_eq (l : List Int) (hl : l.length ≤ 1000000000) : convoy_sane l = some (saneM l) := by
  unfold convoy_sane slices_ContainsFunc_int64_int64_convoy_sane_1 slices_IndexFunc_int64_int64_convoy_sane_1
  rw [index_eq l (fun n => !sane1 n) hl (fun i a h => by
    have := get_lt h
    unfold slices_IndexFunc_int64_int64_convoy_sane_1_l1 convoy_sane_1 convoy_within
    rw [show decide ((i : Int) < (l.length : Int)) = true from decide_eq_true (by omega), geti_some h]
    simp only [cond_true, Option.bind_some]
    unfold sane1
    cases (decide (-4398046511104 ≤ a) && decide (a ≤ 4398046511104)) <;> rfl) (by
    unfold slices_IndexFunc_int64_int64_convoy_sane_1_l1
    simp)]
  simp only [Option.bind_some, idxI_any, Option.some.injEq, saneM]
  rw [Bool.eq_iff_iff]
  simp [List.all_eq_true, List.any_eq_false]
theorem ref09_sane_eq (l : List Int) (hl : l.length ≤ 1000000000) : ref09_sane l = some (saneM l) := by
  have key : ∀ (r : List Int) (i : Nat), l.drop i = r → loop (ref09_sane_l1 l) (i : Int) = some (if r.all sane1 then .inl () else .inr false) := by
    intro r
    induction r with
    | nil =>
      intro i hi
      have := drop_nil hi
      refine loop_out ?_
      unfold ref09_sane_l1
      rw [show decide ((i : Int) < (l.length : Int)) = false from decide_eq_false (by omega)]
      rfl
    | cons a r ih =>
      intro i hi
      have hlt := drop_lt hi
      have hs : ref09_sane_l1 l (i : Int) = some (if sane1 a then .go ((i : Int) + 1) else .out (.inr false)) := by
        unfold ref09_sane_l1
        rw [show decide ((i : Int) < (l.length : Int)) = true from decide_eq_true (by omega), geti_drop hi, w64_id (by omega)]
        simp only [cond_true, Option.bind_some, cond_some]
        unfold sane1
        by_cases h1 : a < -4398046511104
        · rw [show decide (a < -4398046511104) = true from decide_eq_true h1, show decide (-4398046511104 ≤ a) = false from decide_eq_false (by omega)]; rfl
        · rw [show decide (a < -4398046511104) = false from decide_eq_false h1, show decide (-4398046511104 ≤ a) = true from decide_eq_true (by omega)]
          simp only [Bool.not_false, cond_true, Bool.false_or, Bool.true_and]
          by_cases h2 : a > 4398046511104
          · rw [show decide (a > 4398046511104) = true from decide_eq_true h2, show decide (a ≤ 4398046511104) = false from decide_eq_false (by omega)]; rfl
          · rw [show decide (a > 4398046511104) = false from decide_eq_false h2, show decide (a ≤ 4398046511104) = true from decide_eq_true (by omega)]; rfl
      by_cases hp : sane1 a = true
      · rw [if_pos hp] at hs
        rw [loop_go hs, show ((i : Int) + 1) = ((i + 1 : Nat) : Int) by omega, ih (i + 1) (drop_succ hi), List.all_cons, hp, Bool.true_and]
      · rw [if_neg hp] at hs
        rw [loop_out hs, List.all_cons, show sane1 a = false by simpa using hp]; rfl
  unfold ref09_sane
  have := key l 0 rfl
  rw [show ((0 : Nat) : Int) = 0 from rfl] at this
  rw [this]
  unfold saneM
  cases l.all sane1 <;> rfl
theorem sane1_iff {n : Int} : sane1 n = true ↔ -4398046511104 ≤ n ∧ n ≤ 4398046511104 := by simp [sane1]

/-! ### The way to stop -/
def stopM (v : Int) : Int := if v < 1 then 0 else (min v 1000000 - 1) / 90 * min v 1000000 - 90 * ((min v 1000000 - 1) / 90 * ((min v 1000000 - 1) / 90 + 1) / 2)
theorem tri_even (n : Int) : ∃ k, n * (n + 1) = 2 * k := by
  have : n % 2 = 0 ∨ n % 2 = 1 := by omega
  rcases this with h | h
  · obtain ⟨m, rfl⟩ : ∃ m, n = 2 * m := ⟨n / 2, by omega⟩
    exact ⟨m * (2 * m + 1), Int.mul_assoc _ _ _⟩
  · obtain ⟨m, rfl⟩ : ∃ m, n = 2 * m + 1 := ⟨n / 2, by omega⟩
    exact ⟨(2 * m + 1) * (m + 1), by rw [show 2 * m + 1 + 1 = 2 * (m + 1) by omega, Int.mul_left_comm]⟩
theorem nn_bd {n : Int} (h0 : 0 ≤ n) (h1 : n ≤ 11112) : 0 ≤ n * (n + 1) ∧ n * (n + 1) ≤ 200000000 := by
  refine ⟨Int.mul_nonneg h0 (by omega), ?_⟩
  have := Int.mul_le_mul h1 (show n + 1 ≤ 11113 by omega) (by omega) (by decide)
  omega
theorem convoy_stop_eq (v : Int) : convoy_stop v = some (stopM v) := by
  unfold convoy_stop world_Stop stopM
  by_cases h : v < 1
  · simp [h]
  · rw [show decide (v < 1) = false from decide_eq_false h, if_neg h]
    simp only [Bool.false_or, show decide ((90 : Int) < 1) = false from rfl, cond_false, mm2_min]
    generalize hw : min v 1000000 = w
    have w1 : 1 ≤ w ∧ w ≤ 1000000 := by omega
    rw [w64_id (n := w - 1) (by omega), show min (90 : Int) 1000000 = 90 from rfl]
    unfold quoc
    rw [if_neg (by decide), Int.tdiv_eq_ediv_of_nonneg (by omega)]
    generalize hn : (w - 1) / 90 = n
    have n1 : 0 ≤ n ∧ n ≤ 11112 := by omega
    have t := nn_bd n1.1 n1.2
    have m1 : 0 ≤ n * w ∧ n * w ≤ 11112000000 := by
      refine ⟨Int.mul_nonneg n1.1 (by omega), ?_⟩
      have := Int.mul_le_mul n1.2 w1.2 (by omega) (by decide)
      omega
    simp only [Option.bind_some]
    rw [show IntKind.i64.wrap n = n from w64_id (by omega), w64_id (n := n * w) (by omega), w64_id (n := n + 1) (by omega), w64_id (n := n * (n + 1)) (by omega), Int.tdiv_eq_ediv_of_nonneg t.1, w64_id (n := n * (n + 1) / 2) (by omega), w64_id (n := 90 * (n * (n + 1) / 2)) (by omega), w64_id (by omega)]
theorem stopM_small {v : Int} (h : v ≤ 90) : stopM v = 0 := by
  unfold stopM
  split
  · rfl
  · rw [show (min v 1000000 - 1) / 90 = 0 by omega]; simp
theorem stopM_step {v : Int} (h : 90 < v) (h1 : v ≤ 1000000) : stopM v = v - 90 + stopM (v - 90) := by
  unfold stopM
  rw [if_neg (by omega)]
  by_cases h2 : v - 90 < 1
  · omega
  · rw [if_neg h2, show min v 1000000 = v by omega, show min (v - 90) 1000000 = v - 90 by omega, show (v - 90 - 1) / 90 = (v - 1) / 90 - 1 by omega]
    generalize (v - 1) / 90 = n
    obtain ⟨k, hk⟩ := tri_even n
    have e2 : (n - 1) * (n - 1 + 1) = 2 * (k - n) := by
      have : (n - 1) * (n - 1 + 1) = n * (n + 1) - 2 * n := by grind
      rw [this, hk]; omega
    rw [hk, e2, Int.mul_ediv_cancel_left k (by decide), Int.mul_ediv_cancel_left (k - n) (by decide)]
    have : (n - 1) * (v - 90) = n * v - 90 * n - v + 90 := by grind
    rw [this]
    omega
theorem stopM_nonneg (v : Int) : 0 ≤ stopM v ∧ stopM v ≤ 11112000000 := by
  unfold stopM
  split
  · omega
  · generalize hw : min v 1000000 = w
    have w1 : 1 ≤ w ∧ w ≤ 1000000 := by omega
    generalize hn : (w - 1) / 90 = n
    have n1 : 0 ≤ n ∧ n ≤ 11112 := by omega
    have t := nn_bd n1.1 n1.2
    have m1 : n * w ≤ 11112000000 := by
      have := Int.mul_le_mul n1.2 w1.2 (by omega) (by decide)
      omega
    have m2 : n * (90 * n + 1) ≤ n * w := Int.mul_le_mul_of_nonneg_left (by omega) n1.1
    have m3 : n * (90 * n + 1) = 90 * (n * n) + n := by grind
    have m5 : n * (n + 1) = n * n + n := by grind
    have m4 : n ≤ n * n := by
      rcases (show n = 0 ∨ 1 ≤ n by omega) with h | h
      · rw [h]; decide
      · have := Int.mul_le_mul_of_nonneg_left h n1.1
        omega
    omega
end Go.Abs.Convoy

namespace Go.Abs.Convoy
open Go Go.Abs

theorem ref04_loop : ∀ (m : Nat) (v n : Int), v ≤ 90 + 90 * m → v ≤ 1000000 → -9000000000000 ≤ v → 0 ≤ n → n + 1000000 * m ≤ 100000000000 → loop (ref04_Stop_l1 90) (v, n) = some (n + stopM v) := by
  intro m
  induction m with
  | zero =>
    intro v n h _ _ _ _
    refine loop_out ?_
    unfold ref04_Stop_l1
    rw [mm2_min, show min (90 : Int) 1000000 = 90 from rfl, show decide (v > 90) = false from decide_eq_false (by omega), stopM_small (by omega), Int.add_zero]
    rfl
  | succ m ih =>
    intro v n h h1 h2 h3 h4
    by_cases hv : v > 90
    · have hs : ref04_Stop_l1 90 (v, n) = some (.go (v - 90, n + (v - 90))) := by
        unfold ref04_Stop_l1
        rw [mm2_min, show min (90 : Int) 1000000 = 90 from rfl, show decide (v > 90) = true from decide_eq_true hv]
        dsimp only
        rw [w64_id (n := v - 90) (by omega), w64_id (n := n + (v - 90)) (by omega)]
        rfl
      rw [loop_go hs, ih _ _ (by omega) (by omega) (by omega) (by omega) (by omega), stopM_step hv h1]
      congr 1; omega
    · refine loop_out ?_
      unfold ref04_Stop_l1
      rw [mm2_min, show min (90 : Int) 1000000 = 90 from rfl, show decide (v > 90) = false from decide_eq_false hv, stopM_small (by omega), Int.add_zero]
      rfl
theorem stopM_min (v : Int) : stopM (min v 1000000) = stopM v := by
  unfold stopM
  rw [show min (min v 1000000) 1000000 = min v 1000000 by omega]
  by_cases h : v < 1
  · rw [if_pos (by omega), if_pos h]
  · rw [if_neg (by omega), if_neg h]
theorem ref09_stop_eq (v : Int) : ref09_stop v = some (stopM v) := by
  unfold ref09_stop ref04_Stop
  rw [mm2_min, mm2_min, show min (90 : Int) 1000000 = 90 from rfl]
  by_cases h : v < 1
  · rw [show decide (min v 1000000 < 1) = true from decide_eq_true (by omega), stopM_small (by omega)]
    rfl
  · rw [show decide (min v 1000000 < 1) = false from decide_eq_false (by omega), show decide ((90 : Int) < 1) = false from rfl]
    simp only [Bool.or_self, cond_false]
    rw [ref04_loop 11111 (min v 1000000) 0 (by omega) (by omega) (by omega) (by omega) (by omega), stopM_min]
    simp
theorem saneM2 {a b : Int} (h : saneM [a, b] = true) : (-4398046511104 ≤ a ∧ a ≤ 4398046511104) ∧ -4398046511104 ≤ b ∧ b ≤ 4398046511104 := by
  simpa [saneM, sane1_iff] using h
theorem saneM4 {a b c d : Int} (h : saneM [a, b, c, d] = true) : (-4398046511104 ≤ a ∧ a ≤ 4398046511104) ∧ (-4398046511104 ≤ b ∧ b ≤ 4398046511104) ∧ (-4398046511104 ≤ c ∧ c ≤ 4398046511104) ∧ -4398046511104 ≤ d ∧ d ≤ 4398046511104 := by
  simpa [saneM, sane1_iff] using h
theorem saneM5 {a b c d e : Int} (h : saneM [a, b, c, d, e] = true) : (-4398046511104 ≤ a ∧ a ≤ 4398046511104) ∧ (-4398046511104 ≤ b ∧ b ≤ 4398046511104) ∧ (-4398046511104 ≤ c ∧ c ≤ 4398046511104) ∧ (-4398046511104 ≤ d ∧ d ≤ 4398046511104) ∧ -4398046511104 ≤ e ∧ e ≤ 4398046511104 := by
  simpa [saneM, sane1_iff] using h
/-- Where the one of a guess comes to a standstill at least. -/
def endM (g : Guess) : Int := g.R + stopM g.V
theorem convoy_end_eq {g : Guess} (h : -4398046511104 ≤ g.R ∧ g.R ≤ 4398046511104) : convoy_end g = some (endM g) := by
  unfold convoy_end
  have := stopM_nonneg g.V
  rw [convoy_stop_eq, Option.bind_some, w64_id (by omega)]; rfl
def belowM (g : Guess) (r v : Int) : Bool := saneM [g.R, g.V, r, v] && decide (g.R ≤ r) && decide (endM g ≤ r + stopM v)
theorem convoy_Below_eq (g : Guess) (r v : Int) : convoy_Below g r v = some (belowM g r v) := by
  unfold convoy_Below belowM
  rw [convoy_sane_eq _ (by simp), Option.bind_some]
  cases hs : saneM [g.R, g.V, r, v]
  · simp
  · have b := saneM4 hs
    have := stopM_nonneg v
    rw [convoy_end_eq b.1, convoy_stop_eq]
    by_cases hr : g.R ≤ r
    · rw [show decide (g.R ≤ r) = true from decide_eq_true hr]
      simp only [Bool.and_self, cond_true, Option.bind_some]
      rw [w64_id (by omega)]
    · rw [show decide (g.R ≤ r) = false from decide_eq_false hr]
      simp
theorem ref09_Below_eq (g : Guess) (r v : Int) : ref09_Below g r v = some (belowM g r v) := by
  unfold ref09_Below belowM
  rw [ref09_sane_eq _ (by simp), Option.bind_some]
  cases hs : saneM [g.R, g.V, r, v]
  · simp
  · have b := saneM4 hs
    have := stopM_nonneg v
    have := stopM_nonneg g.V
    rw [ref09_stop_eq, ref09_stop_eq]
    by_cases hr : g.R ≤ r
    · rw [show decide (g.R ≤ r) = true from decide_eq_true hr]
      simp only [Bool.and_self, cond_true, Option.bind_some]
      rw [w64_id (by omega), w64_id (by omega)]; rfl
    · rw [show decide (g.R ≤ r) = false from decide_eq_false hr]
      simp
def betterM (g h : Guess) : Guess := if saneM [g.R, g.V, h.R, h.V] then (if g.R ≤ h.R ∧ endM g ≤ endM h then h else g) else ⟨0, 0⟩
theorem convoy_Better_eq (g h : Guess) : convoy_Better g h = some (betterM g h) := by
  unfold convoy_Better betterM
  rw [convoy_sane_eq _ (by simp), Option.bind_some]
  cases hs : saneM [g.R, g.V, h.R, h.V]
  · simp
  · have b := saneM4 hs
    rw [convoy_end_eq b.1, convoy_end_eq b.2.2.1]
    by_cases hr : g.R ≤ h.R
    · rw [show decide (h.R ≥ g.R) = true from decide_eq_true hr]
      simp only [Bool.not_true, cond_false, cond_true, Option.bind_some, Bool.true_and, if_true, hr, true_and, ge_iff_le, cond_if]
      split <;> rfl
    · rw [show decide (h.R ≥ g.R) = false from decide_eq_false hr]
      simp [hr]
theorem ref09_Better_eq (g h : Guess) : ref09_Better g h = some (betterM g h) := by
  unfold ref09_Better betterM
  rw [ref09_sane_eq _ (by simp), Option.bind_some]
  cases hs : saneM [g.R, g.V, h.R, h.V]
  · simp
  · have b := saneM4 hs
    have := stopM_nonneg h.V
    have := stopM_nonneg g.V
    rw [ref09_stop_eq, ref09_stop_eq]
    by_cases hr : g.R ≤ h.R
    · rw [show decide (h.R ≥ g.R) = true from decide_eq_true hr]
      simp only [Bool.not_true, cond_false, cond_true, Option.bind_some, Bool.true_and, if_true, hr, true_and]
      rw [w64_id (by omega), w64_id (by omega)]
      show cond (decide (endM g ≤ endM h)) (some h) (some g) = _
      rw [cond_if]
      split <;> rfl
    · rw [show decide (h.R ≥ g.R) = false from decide_eq_false hr]
      simp [hr]
def safeM (s v gap : Int) (g : Guess) : Bool := saneM [s, v, gap, g.R, g.V] && decide (s ≤ g.R - gap) && decide (s + stopM v ≤ endM g - gap)
theorem convoy_Safe_eq (s v gap : Int) (g : Guess) : convoy_Safe s v gap g = some (safeM s v gap g) := by
  unfold convoy_Safe safeM
  rw [convoy_sane_eq _ (by simp), Option.bind_some]
  cases hs : saneM [s, v, gap, g.R, g.V]
  · simp
  · have b := saneM5 hs
    have := stopM_nonneg v
    have := stopM_nonneg g.V
    rw [w64_id (n := g.R - gap) (by omega), convoy_end_eq b.2.2.2.1, convoy_stop_eq]
    by_cases hr : s ≤ g.R - gap
    · rw [show decide (s ≤ g.R - gap) = true from decide_eq_true hr]
      simp only [Bool.and_self, cond_true, Option.bind_some]
      rw [w64_id (by omega), w64_id (by unfold endM; omega)]
    · rw [show decide (s ≤ g.R - gap) = false from decide_eq_false hr]
      simp
theorem ref09_Safe_eq (s v gap : Int) (g : Guess) : ref09_Safe s v gap g = some (safeM s v gap g) := by
  unfold ref09_Safe safeM
  rw [ref09_sane_eq _ (by simp), Option.bind_some]
  cases hs : saneM [s, v, gap, g.R, g.V]
  · simp
  · have b := saneM5 hs
    have := stopM_nonneg v
    have := stopM_nonneg g.V
    rw [w64_id (n := g.R - gap) (by omega), ref09_stop_eq, ref09_stop_eq]
    by_cases hr : s ≤ g.R - gap
    · rw [show decide (s ≤ g.R - gap) = true from decide_eq_true hr]
      simp only [Bool.and_self, cond_true, Option.bind_some]
      rw [w64_id (n := s + _) (by omega), w64_id (n := g.R + _) (by omega), w64_id (by omega)]; rfl
    · rw [show decide (s ≤ g.R - gap) = false from decide_eq_false hr]
      simp
/-- Ticks in which the one of a guess brakes. -/
def ageN : Nat → Guess → Guess
  | 0, g => g
  | n + 1, g => ageN n ⟨g.R + max 0 (g.V - 90), max 0 (g.V - 90)⟩
def ageM (g : Guess) (n : Int) : Guess := if saneM [g.R, g.V] then ageN (max 0 (min n 30)).toNat g else ⟨0, 0⟩
theorem age_loop (n : Int) : ∀ (k : Nat) (i : Nat) (g : Guess), (i : Int) + k = max 0 (min n 30) → (-4398046511104 ≤ g.V ∧ g.V ≤ 4398046511104) → (-4398046511104 * (1 + i) ≤ g.R ∧ g.R ≤ 4398046511104 * (1 + i)) → loop (convoy_Age_l1 n) ((i : Int), g) = some (ageN k g) ∧ loop (ref09_Age_l1 n) ((i : Int), g) = some (ageN k g) := by
  intro k
  induction k with
  | zero =>
    intro i g h _ _
    constructor
    · refine loop_out ?_
      unfold convoy_Age_l1
      rw [mm2_max, mm2_min, show decide ((i : Int) < max 0 (min n 30)) = false from decide_eq_false (by omega)]; rfl
    · refine loop_out ?_
      unfold ref09_Age_l1
      by_cases h1 : (i : Int) < n
      · rw [show decide ((i : Int) < 30) = false from decide_eq_false (by omega), Bool.and_false]; rfl
      · rw [show decide ((i : Int) < n) = false from decide_eq_false h1, Bool.false_and]; rfl
  | succ k ih =>
    intro i g h hv hr
    have hb : w64 (g.V - 90) = g.V - 90 := w64_id (by omega)
    have hi : (i : Int) < 30 := by omega
    have hrr : w64 (g.R + max 0 (g.V - 90)) = g.R + max 0 (g.V - 90) := w64_id (by omega)
    have s1 : convoy_Age_l1 n ((i : Int), g) = some (.go (((i + 1 : Nat) : Int), ⟨g.R + max 0 (g.V - 90), max 0 (g.V - 90)⟩)) := by
      unfold convoy_Age_l1
      rw [mm2_max, mm2_min, show decide ((i : Int) < max 0 (min n 30)) = true from decide_eq_true (by omega)]
      dsimp only
      rw [hb, mm2_max, hrr, w64_id (by omega)]; rfl
    have s2 : ref09_Age_l1 n ((i : Int), g) = some (.go (((i + 1 : Nat) : Int), ⟨g.R + max 0 (g.V - 90), max 0 (g.V - 90)⟩)) := by
      unfold ref09_Age_l1
      rw [show decide ((i : Int) < n) = true from decide_eq_true (by omega), show decide ((i : Int) < 30) = true from decide_eq_true hi]
      dsimp only
      rw [hb, mm2_max, hrr, w64_id (by omega)]; rfl
    rw [loop_go s1, loop_go s2, ageN]
    exact ih (i + 1) _ (by omega) (by dsimp only; omega) (by dsimp only; omega)
theorem Age_eq (g : Guess) (n : Int) : convoy_Age g n = some (ageM g n) ∧ ref09_Age g n = some (ageM g n) := by
  unfold convoy_Age ref09_Age ageM
  rw [convoy_sane_eq _ (by simp), ref09_sane_eq _ (by simp), Option.bind_some, Option.bind_some]
  cases hs : saneM [g.R, g.V]
  · exact ⟨rfl, rfl⟩
  · have b := saneM2 hs
    obtain ⟨h1, h2⟩ := age_loop n (max 0 (min n 30)).toNat 0 g (by omega) b.2 (by omega)
    rw [show ((0 : Nat) : Int) = 0 from rfl] at h1 h2
    simp only [Bool.not_true, cond_false, h1, h2, Option.bind_some, if_true, and_self]
theorem law09_ConvoyGuesses_plain (a0 a1 : Guess) (a2 a3 a4 a5 a6 : Int) : law09_ConvoyGuesses a0 a1 a2 a3 a4 a5 a6 = some true := by
  unfold law09_ConvoyGuesses
  simp only [(Age_eq _ _).1, (Age_eq _ _).2, Option.bind_some, beq_self_eq_true, Bool.and_self, cond_true, convoy_Below_eq, ref09_Below_eq, convoy_Better_eq, ref09_Better_eq, convoy_Safe_eq, ref09_Safe_eq, awake_eq]
end Go.Abs.Convoy
