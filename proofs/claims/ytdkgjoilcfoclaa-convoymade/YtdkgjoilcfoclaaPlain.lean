/-
  Plain facts on the functions: what they compute, and that the law holds of it.
-/
import Derived.Test.YtdkgjoilcfoclaaFns2

set_option maxRecDepth 100000
set_option linter.unusedVariables false
namespace Go.Abs.Convoy
open Go Go.Abs
def convoy_withinc (p1 : Int) (p2 : Int) (p3 : Int) : Option Bool :=
  some ((decide (p2 ≤ p1)) && (decide (p1 ≤ p3)))
theorem convoy_within_le (p1 : Int) (p2 : Int) (p3 : Int) : Le (convoy_withinc p1 p2 p3) (convoy_within p1 p2 p3) := by
  unfold convoy_withinc convoy_within
  repeat' first | exact Le.refl _ | refine Le.bind ?_ fun _ => ?_ | refine Le.cond ?_ ?_ | refine Le.ite ?_ ?_ | refine Le.thenS ?_ (fun _ => ?_) (fun _ => ?_) | refine Le.loop (fun _ => ?_) _ | refine Le.loopL (fun _ _ => ?_) _ _
def convoy_fairBodyc (p1 : Int) (p2 : Int) (p3 : Int) (p4 : Int) : Option Bool :=
  ((cond ((decide (p1 ≥ 1)) && (decide (p1 ≤ 99))) (convoy_withinc p2 0 1099511627776) (some default))).bind fun v1 => ((cond (((decide (p1 ≥ 1)) && (decide (p1 ≤ 99))) && v1) (convoy_withinc p3 0 2000) (some default))).bind fun v2 => ((cond ((((decide (p1 ≥ 1)) && (decide (p1 ≤ 99))) && v1) && v2) (convoy_withinc p4 300 20000) (some default))).bind fun v3 => some (((((decide (p1 ≥ 1)) && (decide (p1 ≤ 99))) && v1) && v2) && v3)
theorem convoy_fairBody_le (p1 : Int) (p2 : Int) (p3 : Int) (p4 : Int) : Le (convoy_fairBodyc p1 p2 p3 p4) (convoy_fairBody p1 p2 p3 p4) := by
  unfold convoy_fairBodyc convoy_fairBody
  repeat' first | exact Le.refl _ | exact convoy_within_le _ _ _ | refine Le.bind ?_ fun _ => ?_ | refine Le.cond ?_ ?_ | refine Le.ite ?_ ?_ | refine Le.thenS ?_ (fun _ => ?_) (fun _ => ?_) | refine Le.loop (fun _ => ?_) _ | refine Le.loopL (fun _ _ => ?_) _ _
def convoy_fairIDc (p1 : Int) : Option Bool :=
  some ((decide (p1 ≥ 0)) && (decide (p1 ≤ 99)))
theorem convoy_fairID_le (p1 : Int) : Le (convoy_fairIDc p1) (convoy_fairID p1) := by
  unfold convoy_fairIDc convoy_fairID
  repeat' first | exact Le.refl _ | refine Le.bind ?_ fun _ => ?_ | refine Le.cond ?_ ?_ | refine Le.ite ?_ ?_ | refine Le.thenS ?_ (fun _ => ?_) (fun _ => ?_) | refine Le.loop (fun _ => ?_) _ | refine Le.loopL (fun _ _ => ?_) _ _
def convoy_fairGuessc (p1 : Guess) : Option Bool :=
  (convoy_withinc p1.R (-20000) 2199023255552).bind fun v1 => ((cond v1 (convoy_withinc p1.V 0 2000) (some default))).bind fun v2 => some (v1 && v2)
theorem convoy_fairGuess_le (p1 : Guess) : Le (convoy_fairGuessc p1) (convoy_fairGuess p1) := by
  unfold convoy_fairGuessc convoy_fairGuess
  repeat' first | exact Le.refl _ | exact convoy_within_le _ _ _ | refine Le.bind ?_ fun _ => ?_ | refine Le.cond ?_ ?_ | refine Le.ite ?_ ?_ | refine Le.thenS ?_ (fun _ => ?_) (fun _ => ?_) | refine Le.loop (fun _ => ?_) _ | refine Le.loopL (fun _ _ => ?_) _ _
def convoy_fairMatec (p1 : Mate) : Option Bool :=
  (convoy_fairBodyc p1.ID p1.S p1.V p1.Len).bind fun v1 => ((cond v1 (convoy_fairIDc p1.Ahead) (some default))).bind fun v2 => ((cond (v1 && v2) (convoy_fairIDc p1.Ward) (some default))).bind fun v3 => ((cond ((v1 && v2) && v3) (convoy_withinc p1.Until 0 2199023255552) (some default))).bind fun v4 => ((cond (((v1 && v2) && v3) && v4) (convoy_fairGuessc p1.Guess_) (some default))).bind fun v5 => ((cond ((((v1 && v2) && v3) && v4) && v5) (convoy_fairGuessc p1.WardGuess) (some default))).bind fun v6 => some (((((v1 && v2) && v3) && v4) && v5) && v6)
theorem convoy_fairMate_le (p1 : Mate) : Le (convoy_fairMatec p1) (convoy_fairMate p1) := by
  unfold convoy_fairMatec convoy_fairMate
  repeat' first | exact Le.refl _ | exact convoy_fairBody_le _ _ _ _ | exact convoy_fairID_le _ | exact convoy_within_le _ _ _ | exact convoy_fairGuess_le _ | refine Le.bind ?_ fun _ => ?_ | refine Le.cond ?_ ?_ | refine Le.ite ?_ ?_ | refine Le.thenS ?_ (fun _ => ?_) (fun _ => ?_) | refine Le.loop (fun _ => ?_) _ | refine Le.loopL (fun _ _ => ?_) _ _
def convoy_numbers_1c (p1 : Mate) : Option Bool :=
  (convoy_fairMatec p1).bind fun v1 => some (!v1)
theorem convoy_numbers_1_le (p1 : Mate) : Le (convoy_numbers_1c p1) (convoy_numbers_1 p1) := by
  unfold convoy_numbers_1c convoy_numbers_1
  repeat' first | exact Le.refl _ | exact convoy_fairMate_le _ | refine Le.bind ?_ fun _ => ?_ | refine Le.cond ?_ ?_ | refine Le.ite ?_ ?_ | refine Le.thenS ?_ (fun _ => ?_) (fun _ => ?_) | refine Le.loop (fun _ => ?_) _ | refine Le.loopL (fun _ _ => ?_) _ _
def slices_IndexFunc_Mate_Mate_convoy_numbers_1_l1c (p1 : (List Mate)) (x1 : Int) : Option (Stp Int (Sum Unit Int)) :=
  cond (decide (x1 < (p1.length : Int))) ((geti p1 x1).bind fun v1 => (convoy_numbers_1c v1).bind fun v2 => cond v2 (some (.out (.inr x1))) (some (.go (w64 (x1 + 1))))) (some (.out (.inl ())))
theorem slices_IndexFunc_Mate_Mate_convoy_numbers_1_l1_le (p1 : (List Mate)) (x1 : Int) : Le (slices_IndexFunc_Mate_Mate_convoy_numbers_1_l1c p1 x1) (slices_IndexFunc_Mate_Mate_convoy_numbers_1_l1 p1 x1) := by
  unfold slices_IndexFunc_Mate_Mate_convoy_numbers_1_l1c slices_IndexFunc_Mate_Mate_convoy_numbers_1_l1
  repeat' first | exact Le.refl _ | exact convoy_numbers_1_le _ | refine Le.bind ?_ fun _ => ?_ | refine Le.cond ?_ ?_ | refine Le.ite ?_ ?_ | refine Le.thenS ?_ (fun _ => ?_) (fun _ => ?_) | refine Le.loop (fun _ => ?_) _ | refine Le.loopL (fun _ _ => ?_) _ _
def slices_IndexFunc_Mate_Mate_convoy_numbers_1c (p1 : (List Mate)) : Option Int :=
  thenS (loopF (slices_IndexFunc_Mate_Mate_convoy_numbers_1_l1c p1) 0) (fun _ => some (-1)) (fun r => some r)
theorem slices_IndexFunc_Mate_Mate_convoy_numbers_1_le (p1 : (List Mate)) : Le (slices_IndexFunc_Mate_Mate_convoy_numbers_1c p1) (slices_IndexFunc_Mate_Mate_convoy_numbers_1 p1) := by
  unfold slices_IndexFunc_Mate_Mate_convoy_numbers_1c slices_IndexFunc_Mate_Mate_convoy_numbers_1
  repeat' first | exact Le.refl _ | exact slices_IndexFunc_Mate_Mate_convoy_numbers_1_l1_le _ _ | refine Le.bind ?_ fun _ => ?_ | refine Le.cond ?_ ?_ | refine Le.ite ?_ ?_ | refine Le.thenS ?_ (fun _ => ?_) (fun _ => ?_) | refine Le.loop (fun _ => ?_) _ | refine Le.loopL (fun _ _ => ?_) _ _
def slices_ContainsFunc_Mate_Mate_convoy_numbers_1c (p1 : (List Mate)) : Option Bool :=
  (slices_IndexFunc_Mate_Mate_convoy_numbers_1c p1).bind fun v1 => some (decide (v1 ≥ 0))
theorem slices_ContainsFunc_Mate_Mate_convoy_numbers_1_le (p1 : (List Mate)) : Le (slices_ContainsFunc_Mate_Mate_convoy_numbers_1c p1) (slices_ContainsFunc_Mate_Mate_convoy_numbers_1 p1) := by
  unfold slices_ContainsFunc_Mate_Mate_convoy_numbers_1c slices_ContainsFunc_Mate_Mate_convoy_numbers_1
  repeat' first | exact Le.refl _ | exact slices_IndexFunc_Mate_Mate_convoy_numbers_1_le _ | refine Le.bind ?_ fun _ => ?_ | refine Le.cond ?_ ?_ | refine Le.ite ?_ ?_ | refine Le.thenS ?_ (fun _ => ?_) (fun _ => ?_) | refine Le.loop (fun _ => ?_) _ | refine Le.loopL (fun _ _ => ?_) _ _
def convoy_fairGuestc (p1 : Guest) : Option Bool :=
  cond (p1.ID == 0) (some (p1.ID == 0 && (p1.S == 0 && (p1.V == 0 && (p1.Len == 0 && (p1.End == 0 && (p1.Ahead == 0 && (p1.Guess_.R == 0 && (p1.Guess_.V == 0 && (p1.From == 0 && (p1.Until == 0 && true))))))))))) ((convoy_fairBodyc p1.ID p1.S p1.V p1.Len).bind fun v1 => ((cond v1 (convoy_fairIDc p1.Ahead) (some default))).bind fun v2 => ((cond (v1 && v2) (convoy_fairIDc p1.From) (some default))).bind fun v3 => ((cond ((v1 && v2) && v3) (convoy_withinc p1.Until 0 2199023255552) (some default))).bind fun v4 => ((cond (((v1 && v2) && v3) && v4) (convoy_withinc p1.End 0 1099511627776) (some default))).bind fun v5 => ((cond ((((v1 && v2) && v3) && v4) && v5) (convoy_fairGuessc p1.Guess_) (some default))).bind fun v6 => some (((((v1 && v2) && v3) && v4) && v5) && v6))
theorem convoy_fairGuest_le (p1 : Guest) : Le (convoy_fairGuestc p1) (convoy_fairGuest p1) := by
  unfold convoy_fairGuestc convoy_fairGuest
  repeat' first | exact Le.refl _ | exact convoy_fairBody_le _ _ _ _ | exact convoy_fairID_le _ | exact convoy_within_le _ _ _ | exact convoy_fairGuess_le _ | refine Le.bind ?_ fun _ => ?_ | refine Le.cond ?_ ?_ | refine Le.ite ?_ ?_ | refine Le.thenS ?_ (fun _ => ?_) (fun _ => ?_) | refine Le.loop (fun _ => ?_) _ | refine Le.loopL (fun _ _ => ?_) _ _
def convoy_numbersc (p1 : Convoy) : Option Int :=
  (cond (!(p1.Guest_.ID == 0 && (p1.Guest_.S == 0 && (p1.Guest_.V == 0 && (p1.Guest_.Len == 0 && (p1.Guest_.End == 0 && (p1.Guest_.Ahead == 0 && (p1.Guest_.Guess_.R == 0 && (p1.Guest_.Guess_.V == 0 && (p1.Guest_.From == 0 && (p1.Guest_.Until == 0 && true))))))))))) (some (w64 ((p1.Mates.length : Int) + 1))) (some (p1.Mates.length : Int))).bind fun y1 => (convoy_withinc p1.Tick 0 1099511627776).bind fun v1 => ((cond (!(!v1)) (convoy_withinc p1.Gap 1 20000) (some default))).bind fun v2 => cond ((!v1) || (!v2)) (some 2) (cond ((p1.Mates.length : Int) == 0) (some 6) (cond (decide (y1 > 8)) (some 8) ((slices_ContainsFunc_Mate_Mate_convoy_numbers_1c p1.Mates).bind fun v3 => ((cond (!v3) (convoy_fairGuestc p1.Guest_) (some default))).bind fun v4 => cond (v3 || (!v4)) (some 2) (some 0))))
theorem convoy_numbers_le (p1 : Convoy) : Le (convoy_numbersc p1) (convoy_numbers p1) := by
  unfold convoy_numbersc convoy_numbers
  repeat' first | exact Le.refl _ | exact convoy_within_le _ _ _ | exact slices_ContainsFunc_Mate_Mate_convoy_numbers_1_le _ | exact convoy_fairGuest_le _ | refine Le.bind ?_ fun _ => ?_ | refine Le.cond ?_ ?_ | refine Le.ite ?_ ?_ | refine Le.thenS ?_ (fun _ => ?_) (fun _ => ?_) | refine Le.loop (fun _ => ?_) _ | refine Le.loopL (fun _ _ => ?_) _ _
def convoy_rearc (p1 : Mate) : Option Int :=
  some (w64 (p1.S - p1.Len))
theorem convoy_rear_le (p1 : Mate) : Le (convoy_rearc p1) (convoy_rear p1) := by
  unfold convoy_rearc convoy_rear
  repeat' first | exact Le.refl _ | refine Le.bind ?_ fun _ => ?_ | refine Le.cond ?_ ?_ | refine Le.ite ?_ ?_ | refine Le.thenS ?_ (fun _ => ?_) (fun _ => ?_) | refine Le.loop (fun _ => ?_) _ | refine Le.loopL (fun _ _ => ?_) _ _
def convoy_orders_l2c (p1 : Convoy) (x2 : Int) : Option (Stp Int (Sum Unit Int)) :=
  cond (decide (x2 < (p1.Mates.length : Int))) ((geti p1.Mates x2).bind fun v2 => ((cond (decide (x2 > 0)) (geti p1.Mates (w64 (x2 - 1))) (some default))).bind fun v3 => ((cond (decide (x2 > 0)) (convoy_rearc v3) (some default))).bind fun v4 => cond ((decide (x2 > 0)) && (decide (v2.S ≥ v4))) (some (.out (.inr 11))) (some (.go (w64 (x2 + 1))))) (some (.out (.inl ())))
theorem convoy_orders_l2_le (p1 : Convoy) (x2 : Int) : Le (convoy_orders_l2c p1 x2) (convoy_orders_l2 p1 x2) := by
  unfold convoy_orders_l2c convoy_orders_l2
  repeat' first | exact Le.refl _ | exact convoy_rear_le _ | refine Le.bind ?_ fun _ => ?_ | refine Le.cond ?_ ?_ | refine Le.ite ?_ ?_ | refine Le.thenS ?_ (fun _ => ?_) (fun _ => ?_) | refine Le.loop (fun _ => ?_) _ | refine Le.loopL (fun _ _ => ?_) _ _
def convoy_orders_l1c (p1 : Convoy) (x1 : (Int × (List Int))) : Option (Stp (Int × (List Int)) (Sum Unit Int)) :=
  cond (decide (x1.1 < (p1.Mates.length : Int))) ((geti p1.Mates x1.1).bind fun v1 => cond (x1.2.contains v1.ID) (some (.out (.inr 9))) (some (.go ((w64 (x1.1 + 1)), (insm x1.2 v1.ID))))) (some (.out (.inl ())))
theorem convoy_orders_l1_le (p1 : Convoy) (x1 : (Int × (List Int))) : Le (convoy_orders_l1c p1 x1) (convoy_orders_l1 p1 x1) := by
  unfold convoy_orders_l1c convoy_orders_l1
  repeat' first | exact Le.refl _ | refine Le.bind ?_ fun _ => ?_ | refine Le.cond ?_ ?_ | refine Le.ite ?_ ?_ | refine Le.thenS ?_ (fun _ => ?_) (fun _ => ?_) | refine Le.loop (fun _ => ?_) _ | refine Le.loopL (fun _ _ => ?_) _ _
def convoy_ordersc (p1 : Convoy) : Option Int :=
  thenS (loopF (convoy_orders_l1c p1) (0, (insm ([] : List Int) p1.Guest_.ID))) (fun _ => thenS (loopF (convoy_orders_l2c p1) 0) (fun _ => some 0) (fun r => some r)) (fun r => some r)
theorem convoy_orders_le (p1 : Convoy) : Le (convoy_ordersc p1) (convoy_orders p1) := by
  unfold convoy_ordersc convoy_orders
  repeat' first | exact Le.refl _ | exact convoy_orders_l1_le _ _ | exact convoy_orders_l2_le _ _ | refine Le.bind ?_ fun _ => ?_ | refine Le.cond ?_ ?_ | refine Le.ite ?_ ?_ | refine Le.thenS ?_ (fun _ => ?_) (fun _ => ?_) | refine Le.loop (fun _ => ?_) _ | refine Le.loopL (fun _ _ => ?_) _ _
def convoy_sane_1c (p1 : Int) : Option Bool :=
  (convoy_withinc p1 (-4398046511104) 4398046511104).bind fun v1 => some (!v1)
theorem convoy_sane_1_le (p1 : Int) : Le (convoy_sane_1c p1) (convoy_sane_1 p1) := by
  unfold convoy_sane_1c convoy_sane_1
  repeat' first | exact Le.refl _ | exact convoy_within_le _ _ _ | refine Le.bind ?_ fun _ => ?_ | refine Le.cond ?_ ?_ | refine Le.ite ?_ ?_ | refine Le.thenS ?_ (fun _ => ?_) (fun _ => ?_) | refine Le.loop (fun _ => ?_) _ | refine Le.loopL (fun _ _ => ?_) _ _
def slices_IndexFunc_int64_int64_convoy_sane_1_l1c (p1 : (List Int)) (x1 : Int) : Option (Stp Int (Sum Unit Int)) :=
  cond (decide (x1 < (p1.length : Int))) ((geti p1 x1).bind fun v1 => (convoy_sane_1c v1).bind fun v2 => cond v2 (some (.out (.inr x1))) (some (.go (w64 (x1 + 1))))) (some (.out (.inl ())))
theorem slices_IndexFunc_int64_int64_convoy_sane_1_l1_le (p1 : (List Int)) (x1 : Int) : Le (slices_IndexFunc_int64_int64_convoy_sane_1_l1c p1 x1) (slices_IndexFunc_int64_int64_convoy_sane_1_l1 p1 x1) := by
  unfold slices_IndexFunc_int64_int64_convoy_sane_1_l1c slices_IndexFunc_int64_int64_convoy_sane_1_l1
  repeat' first | exact Le.refl _ | exact convoy_sane_1_le _ | refine Le.bind ?_ fun _ => ?_ | refine Le.cond ?_ ?_ | refine Le.ite ?_ ?_ | refine Le.thenS ?_ (fun _ => ?_) (fun _ => ?_) | refine Le.loop (fun _ => ?_) _ | refine Le.loopL (fun _ _ => ?_) _ _
def slices_IndexFunc_int64_int64_convoy_sane_1c (p1 : (List Int)) : Option Int :=
  thenS (loopF (slices_IndexFunc_int64_int64_convoy_sane_1_l1c p1) 0) (fun _ => some (-1)) (fun r => some r)
theorem slices_IndexFunc_int64_int64_convoy_sane_1_le (p1 : (List Int)) : Le (slices_IndexFunc_int64_int64_convoy_sane_1c p1) (slices_IndexFunc_int64_int64_convoy_sane_1 p1) := by
  unfold slices_IndexFunc_int64_int64_convoy_sane_1c slices_IndexFunc_int64_int64_convoy_sane_1
  repeat' first | exact Le.refl _ | exact slices_IndexFunc_int64_int64_convoy_sane_1_l1_le _ _ | refine Le.bind ?_ fun _ => ?_ | refine Le.cond ?_ ?_ | refine Le.ite ?_ ?_ | refine Le.thenS ?_ (fun _ => ?_) (fun _ => ?_) | refine Le.loop (fun _ => ?_) _ | refine Le.loopL (fun _ _ => ?_) _ _
def slices_ContainsFunc_int64_int64_convoy_sane_1c (p1 : (List Int)) : Option Bool :=
  (slices_IndexFunc_int64_int64_convoy_sane_1c p1).bind fun v1 => some (decide (v1 ≥ 0))
theorem slices_ContainsFunc_int64_int64_convoy_sane_1_le (p1 : (List Int)) : Le (slices_ContainsFunc_int64_int64_convoy_sane_1c p1) (slices_ContainsFunc_int64_int64_convoy_sane_1 p1) := by
  unfold slices_ContainsFunc_int64_int64_convoy_sane_1c slices_ContainsFunc_int64_int64_convoy_sane_1
  repeat' first | exact Le.refl _ | exact slices_IndexFunc_int64_int64_convoy_sane_1_le _ | refine Le.bind ?_ fun _ => ?_ | refine Le.cond ?_ ?_ | refine Le.ite ?_ ?_ | refine Le.thenS ?_ (fun _ => ?_) (fun _ => ?_) | refine Le.loop (fun _ => ?_) _ | refine Le.loopL (fun _ _ => ?_) _ _
def convoy_sanec (p1 : (List Int)) : Option Bool :=
  (slices_ContainsFunc_int64_int64_convoy_sane_1c p1).bind fun v1 => some (!v1)
theorem convoy_sane_le (p1 : (List Int)) : Le (convoy_sanec p1) (convoy_sane p1) := by
  unfold convoy_sanec convoy_sane
  repeat' first | exact Le.refl _ | exact slices_ContainsFunc_int64_int64_convoy_sane_1_le _ | refine Le.bind ?_ fun _ => ?_ | refine Le.cond ?_ ?_ | refine Le.ite ?_ ?_ | refine Le.thenS ?_ (fun _ => ?_) (fun _ => ?_) | refine Le.loop (fun _ => ?_) _ | refine Le.loopL (fun _ _ => ?_) _ _
def world_Stopc (p1 : Int) (p2 : Int) : Option Int :=
  cond ((decide (p1 < 1)) || (decide (p2 < 1))) (some 0) ((quoc .i64 (w64 ((mm2 false p1 1000000) - 1)) (mm2 false p2 1000000)).bind fun v1 => some (w64 ((w64 (v1 * (mm2 false p1 1000000))) - (w64 ((mm2 false p2 1000000) * (w64 ((w64 (v1 * (w64 (v1 + 1)))).tdiv 2)))))))
theorem world_Stop_le (p1 : Int) (p2 : Int) : Le (world_Stopc p1 p2) (world_Stop p1 p2) := by
  unfold world_Stopc world_Stop
  repeat' first | exact Le.refl _ | refine Le.bind ?_ fun _ => ?_ | refine Le.cond ?_ ?_ | refine Le.ite ?_ ?_ | refine Le.thenS ?_ (fun _ => ?_) (fun _ => ?_) | refine Le.loop (fun _ => ?_) _ | refine Le.loopL (fun _ _ => ?_) _ _
def convoy_stopc (p1 : Int) : Option Int :=
  (world_Stopc p1 90).bind fun v1 => some v1
theorem convoy_stop_le (p1 : Int) : Le (convoy_stopc p1) (convoy_stop p1) := by
  unfold convoy_stopc convoy_stop
  repeat' first | exact Le.refl _ | exact world_Stop_le _ _ | refine Le.bind ?_ fun _ => ?_ | refine Le.cond ?_ ?_ | refine Le.ite ?_ ?_ | refine Le.thenS ?_ (fun _ => ?_) (fun _ => ?_) | refine Le.loop (fun _ => ?_) _ | refine Le.loopL (fun _ _ => ?_) _ _
def convoy_endc (p1 : Guess) : Option Int :=
  (convoy_stopc p1.V).bind fun v1 => some (w64 (p1.R + v1))
theorem convoy_end_le (p1 : Guess) : Le (convoy_endc p1) (convoy_end p1) := by
  unfold convoy_endc convoy_end
  repeat' first | exact Le.refl _ | exact convoy_stop_le _ | refine Le.bind ?_ fun _ => ?_ | refine Le.cond ?_ ?_ | refine Le.ite ?_ ?_ | refine Le.thenS ?_ (fun _ => ?_) (fun _ => ?_) | refine Le.loop (fun _ => ?_) _ | refine Le.loopL (fun _ _ => ?_) _ _
def convoy_Safec (p1 : Int) (p2 : Int) (p3 : Int) (p4 : Guess) : Option Bool :=
  (convoy_sanec [p1, p2, p3, p4.R, p4.V]).bind fun v1 => ((cond (v1 && (decide (p1 ≤ (w64 (p4.R - p3))))) (convoy_stopc p2) (some default))).bind fun v2 => ((cond (v1 && (decide (p1 ≤ (w64 (p4.R - p3))))) (convoy_endc p4) (some default))).bind fun v3 => some ((v1 && (decide (p1 ≤ (w64 (p4.R - p3))))) && (decide ((w64 (p1 + v2)) ≤ (w64 (v3 - p3)))))
theorem convoy_Safe_le (p1 : Int) (p2 : Int) (p3 : Int) (p4 : Guess) : Le (convoy_Safec p1 p2 p3 p4) (convoy_Safe p1 p2 p3 p4) := by
  unfold convoy_Safec convoy_Safe
  repeat' first | exact Le.refl _ | exact convoy_sane_le _ | exact convoy_stop_le _ | exact convoy_end_le _ | refine Le.bind ?_ fun _ => ?_ | refine Le.cond ?_ ?_ | refine Le.ite ?_ ?_ | refine Le.thenS ?_ (fun _ => ?_) (fun _ => ?_) | refine Le.loop (fun _ => ?_) _ | refine Le.loopL (fun _ _ => ?_) _ _
def convoy_keepsc (p1 : Int) (p2 : Mate) (p3 : Int) (p4 : Int) (p5 : Guess) (p6 : Guess) : Option Bool :=
  ((cond (!(p2.Ahead == 0)) (convoy_Safec p3 p4 p1 p5) (some default))).bind fun v1 => ((cond (((p2.Ahead == 0) || v1) && (!(p2.Until == 0))) (convoy_Safec p3 p4 p1 p6) (some default))).bind fun v2 => some (((p2.Ahead == 0) || v1) && ((p2.Until == 0) || v2))
theorem convoy_keeps_le (p1 : Int) (p2 : Mate) (p3 : Int) (p4 : Int) (p5 : Guess) (p6 : Guess) : Le (convoy_keepsc p1 p2 p3 p4 p5 p6) (convoy_keeps p1 p2 p3 p4 p5 p6) := by
  unfold convoy_keepsc convoy_keeps
  repeat' first | exact Le.refl _ | exact convoy_Safe_le _ _ _ _ | refine Le.bind ?_ fun _ => ?_ | refine Le.cond ?_ ?_ | refine Le.ite ?_ ?_ | refine Le.thenS ?_ (fun _ => ?_) (fun _ => ?_) | refine Le.loop (fun _ => ?_) _ | refine Le.loopL (fun _ _ => ?_) _ _
def convoy_Check_1_bc (p1 : Mate) (p2 : Convoy) : Option Bool :=
  (convoy_keepsc p2.Gap p1 p1.S p1.V p1.Guess_ p1.WardGuess).bind fun v1 => some (!v1)
theorem convoy_Check_1_b_le (p1 : Mate) (p2 : Convoy) : Le (convoy_Check_1_bc p1 p2) (convoy_Check_1_b p1 p2) := by
  unfold convoy_Check_1_bc convoy_Check_1_b
  repeat' first | exact Le.refl _ | exact convoy_keeps_le _ _ _ _ _ _ | refine Le.bind ?_ fun _ => ?_ | refine Le.cond ?_ ?_ | refine Le.ite ?_ ?_ | refine Le.thenS ?_ (fun _ => ?_) (fun _ => ?_) | refine Le.loop (fun _ => ?_) _ | refine Le.loopL (fun _ _ => ?_) _ _
def slices_IndexFunc_Mate_Mate_convoy_Check_1b_l1c (p1 : (List Mate)) (p2 : Convoy) (x1 : Int) : Option (Stp Int (Sum Unit Int)) :=
  cond (decide (x1 < (p1.length : Int))) ((geti p1 x1).bind fun v1 => (convoy_Check_1_bc v1 p2).bind fun v2 => cond v2 (some (.out (.inr x1))) (some (.go (w64 (x1 + 1))))) (some (.out (.inl ())))
theorem slices_IndexFunc_Mate_Mate_convoy_Check_1b_l1_le (p1 : (List Mate)) (p2 : Convoy) (x1 : Int) : Le (slices_IndexFunc_Mate_Mate_convoy_Check_1b_l1c p1 p2 x1) (slices_IndexFunc_Mate_Mate_convoy_Check_1b_l1 p1 p2 x1) := by
  unfold slices_IndexFunc_Mate_Mate_convoy_Check_1b_l1c slices_IndexFunc_Mate_Mate_convoy_Check_1b_l1
  repeat' first | exact Le.refl _ | exact convoy_Check_1_b_le _ _ | refine Le.bind ?_ fun _ => ?_ | refine Le.cond ?_ ?_ | refine Le.ite ?_ ?_ | refine Le.thenS ?_ (fun _ => ?_) (fun _ => ?_) | refine Le.loop (fun _ => ?_) _ | refine Le.loopL (fun _ _ => ?_) _ _
def slices_IndexFunc_Mate_Mate_convoy_Check_1bc (p1 : (List Mate)) (p2 : Convoy) : Option Int :=
  thenS (loopF (slices_IndexFunc_Mate_Mate_convoy_Check_1b_l1c p1 p2) 0) (fun _ => some (-1)) (fun r => some r)
theorem slices_IndexFunc_Mate_Mate_convoy_Check_1b_le (p1 : (List Mate)) (p2 : Convoy) : Le (slices_IndexFunc_Mate_Mate_convoy_Check_1bc p1 p2) (slices_IndexFunc_Mate_Mate_convoy_Check_1b p1 p2) := by
  unfold slices_IndexFunc_Mate_Mate_convoy_Check_1bc slices_IndexFunc_Mate_Mate_convoy_Check_1b
  repeat' first | exact Le.refl _ | exact slices_IndexFunc_Mate_Mate_convoy_Check_1b_l1_le _ _ _ | refine Le.bind ?_ fun _ => ?_ | refine Le.cond ?_ ?_ | refine Le.ite ?_ ?_ | refine Le.thenS ?_ (fun _ => ?_) (fun _ => ?_) | refine Le.loop (fun _ => ?_) _ | refine Le.loopL (fun _ _ => ?_) _ _
def slices_ContainsFunc_Mate_Mate_convoy_Check_1bc (p1 : (List Mate)) (p2 : Convoy) : Option Bool :=
  (slices_IndexFunc_Mate_Mate_convoy_Check_1bc p1 p2).bind fun v1 => some (decide (v1 ≥ 0))
theorem slices_ContainsFunc_Mate_Mate_convoy_Check_1b_le (p1 : (List Mate)) (p2 : Convoy) : Le (slices_ContainsFunc_Mate_Mate_convoy_Check_1bc p1 p2) (slices_ContainsFunc_Mate_Mate_convoy_Check_1b p1 p2) := by
  unfold slices_ContainsFunc_Mate_Mate_convoy_Check_1bc slices_ContainsFunc_Mate_Mate_convoy_Check_1b
  repeat' first | exact Le.refl _ | exact slices_IndexFunc_Mate_Mate_convoy_Check_1b_le _ _ | refine Le.bind ?_ fun _ => ?_ | refine Le.cond ?_ ?_ | refine Le.ite ?_ ?_ | refine Le.thenS ?_ (fun _ => ?_) (fun _ => ?_) | refine Le.loop (fun _ => ?_) _ | refine Le.loopL (fun _ _ => ?_) _ _
def convoy_Check_l1c (p1 : Convoy) (x1 : Int) : Option (Stp Int (Sum Unit Int)) :=
  cond (decide (x1 < (p1.Mates.length : Int))) ((geti p1.Mates x1).bind fun v3 => cond ((((x1 == 0) && (v3.Ahead != 0)) || (((decide (x1 > 0)) && (v3.Until == 0)) && (v3.Ahead == 0))) || ((v3.Ward == 0) && (v3.Until != 0))) (some (.out (.inr 10))) (some (.go (w64 (x1 + 1))))) (some (.out (.inl ())))
theorem convoy_Check_l1_le (p1 : Convoy) (x1 : Int) : Le (convoy_Check_l1c p1 x1) (convoy_Check_l1 p1 x1) := by
  unfold convoy_Check_l1c convoy_Check_l1
  repeat' first | exact Le.refl _ | refine Le.bind ?_ fun _ => ?_ | refine Le.cond ?_ ?_ | refine Le.ite ?_ ?_ | refine Le.thenS ?_ (fun _ => ?_) (fun _ => ?_) | refine Le.loop (fun _ => ?_) _ | refine Le.loopL (fun _ _ => ?_) _ _
def convoy_Checkc (p1 : Convoy) : Option Int :=
  (convoy_numbersc p1).bind fun v1 => cond (v1 != 0) (some v1) ((convoy_ordersc p1).bind fun v2 => cond (v2 != 0) (some v2) (thenS (loopF (convoy_Check_l1c p1) 0) (fun _ => (slices_ContainsFunc_Mate_Mate_convoy_Check_1bc p1.Mates p1).bind fun v4 => ((cond ((!v4) && (p1.Guest_.ID != 0)) (convoy_stopc p1.Guest_.V) (some default))).bind fun v5 => cond (v4 || ((p1.Guest_.ID != 0) && (decide ((w64 (p1.Guest_.S + v5)) ≥ p1.Guest_.End)))) (some 12) (some 0)) (fun r => some r)))
theorem convoy_Check_le (p1 : Convoy) : Le (convoy_Checkc p1) (convoy_Check p1) := by
  unfold convoy_Checkc convoy_Check
  repeat' first | exact Le.refl _ | exact convoy_numbers_le _ | exact convoy_orders_le _ | exact convoy_Check_l1_le _ _ | exact slices_ContainsFunc_Mate_Mate_convoy_Check_1b_le _ _ | exact convoy_stop_le _ | refine Le.bind ?_ fun _ => ?_ | refine Le.cond ?_ ?_ | refine Le.ite ?_ ?_ | refine Le.thenS ?_ (fun _ => ?_) (fun _ => ?_) | refine Le.loop (fun _ => ?_) _ | refine Le.loopL (fun _ _ => ?_) _ _
def convoy_New_l1c (p2 : (List Mate)) (x1 : (Int × Convoy)) : Option (Stp (Int × Convoy) Convoy) :=
  cond (decide (x1.1 < (p2.length : Int))) ((geti p2 x1.1).bind fun v1 => (cond (decide (x1.1 > 0)) ((geti p2 (w64 (x1.1 - 1))).bind fun v2 => (geti p2 (w64 (x1.1 - 1))).bind fun v3 => (geti p2 (w64 (x1.1 - 1))).bind fun v4 => some (Mate.mk (w64 (x1.1 + 1)) v1.S v1.V v1.Len x1.1 (Guess.mk (w64 (v2.S - v3.Len)) v4.V) true 0 (Guess.mk 0 0) 0)) (some (Mate.mk (w64 (x1.1 + 1)) v1.S v1.V v1.Len 0 (Guess.mk 0 0) true 0 (Guess.mk 0 0) 0))).bind fun y2 => (appc x1.2.Mates [y2]).bind fun v5 => some (.go ((w64 (x1.1 + 1)), (Convoy.mk x1.2.Tick x1.2.Gap v5 x1.2.Guest_)))) (some (.out x1.2))
theorem convoy_New_l1_le (p2 : (List Mate)) (x1 : (Int × Convoy)) : Le (convoy_New_l1c p2 x1) (convoy_New_l1 p2 x1) := by
  unfold convoy_New_l1c convoy_New_l1
  repeat' first | exact Le.refl _ | refine Le.bind ?_ fun _ => ?_ | refine Le.cond ?_ ?_ | refine Le.ite ?_ ?_ | refine Le.thenS ?_ (fun _ => ?_) (fun _ => ?_) | refine Le.loop (fun _ => ?_) _ | refine Le.loopL (fun _ _ => ?_) _ _
def convoy_Newc (p1 : Int) (p2 : (List Mate)) : Option (Convoy × Int) :=
  (loopF (convoy_New_l1c p2) (0, (Convoy.mk 0 p1 [] (Guest.mk 0 0 0 0 0 0 (Guess.mk 0 0) 0 0)))).bind fun y1 => (convoy_Checkc y1).bind fun v6 => cond (v6 != 0) (some ((Convoy.mk 0 0 [] (Guest.mk 0 0 0 0 0 0 (Guess.mk 0 0) 0 0)), v6)) (some (y1, 0))
theorem convoy_New_le (p1 : Int) (p2 : (List Mate)) : Le (convoy_Newc p1 p2) (convoy_New p1 p2) := by
  unfold convoy_Newc convoy_New
  repeat' first | exact Le.refl _ | exact convoy_New_l1_le _ _ | exact convoy_Check_le _ | refine Le.bind ?_ fun _ => ?_ | refine Le.cond ?_ ?_ | refine Le.ite ?_ ?_ | refine Le.thenS ?_ (fun _ => ?_) (fun _ => ?_) | refine Le.loop (fun _ => ?_) _ | refine Le.loopL (fun _ _ => ?_) _ _
def law09_shownc : Option Convoy :=
  (convoy_Newc 1000 [(Mate.mk 0 50000 1000 4000 0 (Guess.mk 0 0) false 0 (Guess.mk 0 0) 0), (Mate.mk 0 40000 1000 4000 0 (Guess.mk 0 0) false 0 (Guess.mk 0 0) 0)]).bind fun v1 => cond ((v1.2 != 0) || ((v1.1.Mates.length : Int) != 2)) (some (Convoy.mk 0 0 [] (Guest.mk 0 0 0 0 0 0 (Guess.mk 0 0) 0 0))) (some v1.1)
theorem law09_shown_le : Le (law09_shownc) (law09_shown) := by
  unfold law09_shownc law09_shown
  repeat' first | exact Le.refl _ | exact convoy_New_le _ _ | refine Le.bind ?_ fun _ => ?_ | refine Le.cond ?_ ?_ | refine Le.ite ?_ ?_ | refine Le.thenS ?_ (fun _ => ?_) (fun _ => ?_) | refine Le.loop (fun _ => ?_) _ | refine Le.loopL (fun _ _ => ?_) _ _
def convoy_Age_l1c (p2 : Int) (x1 : (Int × Guess)) : Option (Stp (Int × Guess) Guess) :=
  cond (decide (x1.1 < (mm2 true 0 (mm2 false p2 30)))) (some (.go ((w64 (x1.1 + 1)), (Guess.mk (w64 (x1.2.R + (mm2 true 0 (w64 (x1.2.V - 90))))) (mm2 true 0 (w64 (x1.2.V - 90))))))) (some (.out x1.2))
theorem convoy_Age_l1_le (p2 : Int) (x1 : (Int × Guess)) : Le (convoy_Age_l1c p2 x1) (convoy_Age_l1 p2 x1) := by
  unfold convoy_Age_l1c convoy_Age_l1
  repeat' first | exact Le.refl _ | refine Le.bind ?_ fun _ => ?_ | refine Le.cond ?_ ?_ | refine Le.ite ?_ ?_ | refine Le.thenS ?_ (fun _ => ?_) (fun _ => ?_) | refine Le.loop (fun _ => ?_) _ | refine Le.loopL (fun _ _ => ?_) _ _
def convoy_Agec (p1 : Guess) (p2 : Int) : Option Guess :=
  (convoy_sanec [p1.R, p1.V]).bind fun v1 => cond (!v1) (some (Guess.mk 0 0)) ((loopF (convoy_Age_l1c p2) (0, p1)).bind fun y1 => some y1)
theorem convoy_Age_le (p1 : Guess) (p2 : Int) : Le (convoy_Agec p1 p2) (convoy_Age p1 p2) := by
  unfold convoy_Agec convoy_Age
  repeat' first | exact Le.refl _ | exact convoy_sane_le _ | exact convoy_Age_l1_le _ _ | refine Le.bind ?_ fun _ => ?_ | refine Le.cond ?_ ?_ | refine Le.ite ?_ ?_ | refine Le.thenS ?_ (fun _ => ?_) (fun _ => ?_) | refine Le.loop (fun _ => ?_) _ | refine Le.loopL (fun _ _ => ?_) _ _
def convoy_find_1_bc (p1 : Mate) (p2 : Int) : Option Bool :=
  some (p1.ID == p2)
theorem convoy_find_1_b_le (p1 : Mate) (p2 : Int) : Le (convoy_find_1_bc p1 p2) (convoy_find_1_b p1 p2) := by
  unfold convoy_find_1_bc convoy_find_1_b
  repeat' first | exact Le.refl _ | refine Le.bind ?_ fun _ => ?_ | refine Le.cond ?_ ?_ | refine Le.ite ?_ ?_ | refine Le.thenS ?_ (fun _ => ?_) (fun _ => ?_) | refine Le.loop (fun _ => ?_) _ | refine Le.loopL (fun _ _ => ?_) _ _
def slices_IndexFunc_Mate_Mate_convoy_find_1b_l1c (p1 : (List Mate)) (p2 : Int) (x1 : Int) : Option (Stp Int (Sum Unit Int)) :=
  cond (decide (x1 < (p1.length : Int))) ((geti p1 x1).bind fun v1 => (convoy_find_1_bc v1 p2).bind fun v2 => cond v2 (some (.out (.inr x1))) (some (.go (w64 (x1 + 1))))) (some (.out (.inl ())))
theorem slices_IndexFunc_Mate_Mate_convoy_find_1b_l1_le (p1 : (List Mate)) (p2 : Int) (x1 : Int) : Le (slices_IndexFunc_Mate_Mate_convoy_find_1b_l1c p1 p2 x1) (slices_IndexFunc_Mate_Mate_convoy_find_1b_l1 p1 p2 x1) := by
  unfold slices_IndexFunc_Mate_Mate_convoy_find_1b_l1c slices_IndexFunc_Mate_Mate_convoy_find_1b_l1
  repeat' first | exact Le.refl _ | exact convoy_find_1_b_le _ _ | refine Le.bind ?_ fun _ => ?_ | refine Le.cond ?_ ?_ | refine Le.ite ?_ ?_ | refine Le.thenS ?_ (fun _ => ?_) (fun _ => ?_) | refine Le.loop (fun _ => ?_) _ | refine Le.loopL (fun _ _ => ?_) _ _
def slices_IndexFunc_Mate_Mate_convoy_find_1bc (p1 : (List Mate)) (p2 : Int) : Option Int :=
  thenS (loopF (slices_IndexFunc_Mate_Mate_convoy_find_1b_l1c p1 p2) 0) (fun _ => some (-1)) (fun r => some r)
theorem slices_IndexFunc_Mate_Mate_convoy_find_1b_le (p1 : (List Mate)) (p2 : Int) : Le (slices_IndexFunc_Mate_Mate_convoy_find_1bc p1 p2) (slices_IndexFunc_Mate_Mate_convoy_find_1b p1 p2) := by
  unfold slices_IndexFunc_Mate_Mate_convoy_find_1bc slices_IndexFunc_Mate_Mate_convoy_find_1b
  repeat' first | exact Le.refl _ | exact slices_IndexFunc_Mate_Mate_convoy_find_1b_l1_le _ _ _ | refine Le.bind ?_ fun _ => ?_ | refine Le.cond ?_ ?_ | refine Le.ite ?_ ?_ | refine Le.thenS ?_ (fun _ => ?_) (fun _ => ?_) | refine Le.loop (fun _ => ?_) _ | refine Le.loopL (fun _ _ => ?_) _ _
def convoy_findc (p1 : (List Mate)) (p2 : Int) : Option Int :=
  (slices_IndexFunc_Mate_Mate_convoy_find_1bc p1 p2).bind fun v1 => some v1
theorem convoy_find_le (p1 : (List Mate)) (p2 : Int) : Le (convoy_findc p1 p2) (convoy_find p1 p2) := by
  unfold convoy_findc convoy_find
  repeat' first | exact Le.refl _ | exact slices_IndexFunc_Mate_Mate_convoy_find_1b_le _ _ | refine Le.bind ?_ fun _ => ?_ | refine Le.cond ?_ ?_ | refine Le.ite ?_ ?_ | refine Le.thenS ?_ (fun _ => ?_) (fun _ => ?_) | refine Le.loop (fun _ => ?_) _ | refine Le.loopL (fun _ _ => ?_) _ _
def convoy_Belowc (p1 : Guess) (p2 : Int) (p3 : Int) : Option Bool :=
  (convoy_sanec [p1.R, p1.V, p2, p3]).bind fun v1 => ((cond (v1 && (decide (p1.R ≤ p2))) (convoy_endc p1) (some default))).bind fun v2 => ((cond (v1 && (decide (p1.R ≤ p2))) (convoy_stopc p3) (some default))).bind fun v3 => some ((v1 && (decide (p1.R ≤ p2))) && (decide (v2 ≤ (w64 (p2 + v3)))))
theorem convoy_Below_le (p1 : Guess) (p2 : Int) (p3 : Int) : Le (convoy_Belowc p1 p2 p3) (convoy_Below p1 p2 p3) := by
  unfold convoy_Belowc convoy_Below
  repeat' first | exact Le.refl _ | exact convoy_sane_le _ | exact convoy_end_le _ | exact convoy_stop_le _ | refine Le.bind ?_ fun _ => ?_ | refine Le.cond ?_ ?_ | refine Le.ite ?_ ?_ | refine Le.thenS ?_ (fun _ => ?_) (fun _ => ?_) | refine Le.loop (fun _ => ?_) _ | refine Le.loopL (fun _ _ => ?_) _ _
def convoy_holdsc (p1 : (List Mate)) (p2 : Int) (p3 : Guess) : Option Bool :=
  (convoy_findc p1 p2).bind fun v1 => ((cond (decide (v1 ≥ 0)) (geti p1 v1) (some default))).bind fun v2 => ((cond (decide (v1 ≥ 0)) (convoy_rearc v2) (some default))).bind fun v3 => ((cond (decide (v1 ≥ 0)) (geti p1 v1) (some default))).bind fun v4 => ((cond (decide (v1 ≥ 0)) (convoy_Belowc p3 v3 v4.V) (some default))).bind fun v5 => some ((decide (v1 ≥ 0)) && v5)
theorem convoy_holds_le (p1 : (List Mate)) (p2 : Int) (p3 : Guess) : Le (convoy_holdsc p1 p2 p3) (convoy_holds p1 p2 p3) := by
  unfold convoy_holdsc convoy_holds
  repeat' first | exact Le.refl _ | exact convoy_find_le _ _ | exact convoy_rear_le _ | exact convoy_Below_le _ _ _ | refine Le.bind ?_ fun _ => ?_ | refine Le.cond ?_ ?_ | refine Le.ite ?_ ?_ | refine Le.thenS ?_ (fun _ => ?_) (fun _ => ?_) | refine Le.loop (fun _ => ?_) _ | refine Le.loopL (fun _ _ => ?_) _ _
def convoy_Sound_l1c (p1 : Convoy) (x1 : Int) : Option (Stp Int (Sum Unit Bool)) :=
  cond (decide (x1 < (p1.Mates.length : Int))) ((geti p1.Mates x1).bind fun v2 => ((cond (v2.Ahead != 0) (subl p1.Mates 0 x1) (some default))).bind fun v3 => ((cond (v2.Ahead != 0) (convoy_holdsc v3 v2.Ahead v2.Guess_) (some default))).bind fun v4 => cond ((v2.Ahead != 0) && (!v4)) (some (.out (.inr false))) (((cond (v2.Until != 0) (subl p1.Mates 0 x1) (some default))).bind fun v5 => ((cond (v2.Until != 0) (convoy_findc v5 v2.Ward) (some default))).bind fun v6 => ((cond ((v2.Until != 0) && (decide (v6 ≥ 0))) (subl p1.Mates 0 x1) (some default))).bind fun v7 => ((cond ((v2.Until != 0) && (decide (v6 ≥ 0))) (convoy_holdsc v7 v2.Ward v2.WardGuess) (some default))).bind fun v8 => cond (((v2.Until != 0) && (decide (v6 ≥ 0))) && (!v8)) (some (.out (.inr false))) (((cond ((v2.Until != 0) && (v2.Ward == p1.Guest_.ID)) (convoy_Belowc v2.WardGuess (w64 (p1.Guest_.S - p1.Guest_.Len)) p1.Guest_.V) (some default))).bind fun v9 => cond (((v2.Until != 0) && (v2.Ward == p1.Guest_.ID)) && (!v9)) (some (.out (.inr false))) (((cond (decide (x1 > 0)) (geti p1.Mates (w64 (x1 - 1))) (some default))).bind fun v10 => ((cond (((decide (x1 > 0)) && (v10.ID != v2.Ahead)) && (!(v2.Until == 0))) (geti p1.Mates (w64 (x1 - 1))) (some default))).bind fun v11 => cond (((decide (x1 > 0)) && (v10.ID != v2.Ahead)) && ((v2.Until == 0) || (v11.ID != v2.Ward))) (some (.out (.inr false))) (some (.go (w64 (x1 + 1)))))))) (some (.out (.inl ())))
theorem convoy_Sound_l1_le (p1 : Convoy) (x1 : Int) : Le (convoy_Sound_l1c p1 x1) (convoy_Sound_l1 p1 x1) := by
  unfold convoy_Sound_l1c convoy_Sound_l1
  repeat' first | exact Le.refl _ | exact convoy_holds_le _ _ _ | exact convoy_find_le _ _ | exact convoy_Below_le _ _ _ | refine Le.bind ?_ fun _ => ?_ | refine Le.cond ?_ ?_ | refine Le.ite ?_ ?_ | refine Le.thenS ?_ (fun _ => ?_) (fun _ => ?_) | refine Le.loop (fun _ => ?_) _ | refine Le.loopL (fun _ _ => ?_) _ _
def convoy_Soundc (p1 : Convoy) : Option Bool :=
  (convoy_Checkc p1).bind fun v1 => cond (v1 != 0) (some false) (thenS (loopF (convoy_Sound_l1c p1) 0) (fun _ => ((cond (!(p1.Guest_.Ahead == 0)) (convoy_holdsc p1.Mates p1.Guest_.Ahead p1.Guest_.Guess_) (some default))).bind fun v12 => some ((p1.Guest_.Ahead == 0) || v12)) (fun r => some r))
theorem convoy_Sound_le (p1 : Convoy) : Le (convoy_Soundc p1) (convoy_Sound p1) := by
  unfold convoy_Soundc convoy_Sound
  repeat' first | exact Le.refl _ | exact convoy_Check_le _ | exact convoy_Sound_l1_le _ _ | exact convoy_holds_le _ _ _ | refine Le.bind ?_ fun _ => ?_ | refine Le.cond ?_ ?_ | refine Le.ite ?_ ?_ | refine Le.thenS ?_ (fun _ => ?_) (fun _ => ?_) | refine Le.loop (fun _ => ?_) _ | refine Le.loopL (fun _ _ => ?_) _ _
def convoy_Gaps_l1c (p1 : Convoy) (x1 : ((List Int) × Int)) : Option (Stp ((List Int) × Int) (List Int)) :=
  cond (decide (x1.2 < (p1.Mates.length : Int))) ((geti p1.Mates (w64 (x1.2 - 1))).bind fun v2 => (convoy_rearc v2).bind fun v3 => (geti p1.Mates x1.2).bind fun v4 => (appc x1.1 [(w64 (v3 - v4.S))]).bind fun v5 => some (.go (v5, (w64 (x1.2 + 1))))) (some (.out x1.1))
theorem convoy_Gaps_l1_le (p1 : Convoy) (x1 : ((List Int) × Int)) : Le (convoy_Gaps_l1c p1 x1) (convoy_Gaps_l1 p1 x1) := by
  unfold convoy_Gaps_l1c convoy_Gaps_l1
  repeat' first | exact Le.refl _ | exact convoy_rear_le _ | refine Le.bind ?_ fun _ => ?_ | refine Le.cond ?_ ?_ | refine Le.ite ?_ ?_ | refine Le.thenS ?_ (fun _ => ?_) (fun _ => ?_) | refine Le.loop (fun _ => ?_) _ | refine Le.loopL (fun _ _ => ?_) _ _
def convoy_Gapsc (p1 : Convoy) : Option (List Int) :=
  (convoy_Checkc p1).bind fun v1 => cond (v1 != 0) (some []) ((loopF (convoy_Gaps_l1c p1) ([], 1)).bind fun y1 => some y1)
theorem convoy_Gaps_le (p1 : Convoy) : Le (convoy_Gapsc p1) (convoy_Gaps p1) := by
  unfold convoy_Gapsc convoy_Gaps
  repeat' first | exact Le.refl _ | exact convoy_Check_le _ | exact convoy_Gaps_l1_le _ _ | refine Le.bind ?_ fun _ => ?_ | refine Le.cond ?_ ?_ | refine Le.ite ?_ ?_ | refine Le.thenS ?_ (fun _ => ?_) (fun _ => ?_) | refine Le.loop (fun _ => ?_) _ | refine Le.loopL (fun _ _ => ?_) _ _
def kit_SameLongs_l1c (p1 : (List Int)) (p2 : (List Int)) (x1 : Int) : Option (Stp Int (Sum Unit Bool)) :=
  cond ((decide (x1 < (p1.length : Int))) && (decide (x1 < (p2.length : Int)))) ((geti p1 x1).bind fun v1 => (geti p2 x1).bind fun v2 => cond (v1 != v2) (some (.out (.inr false))) (some (.go (w64 (x1 + 1))))) (some (.out (.inl ())))
theorem kit_SameLongs_l1_le (p1 : (List Int)) (p2 : (List Int)) (x1 : Int) : Le (kit_SameLongs_l1c p1 p2 x1) (kit_SameLongs_l1 p1 p2 x1) := by
  unfold kit_SameLongs_l1c kit_SameLongs_l1
  repeat' first | exact Le.refl _ | refine Le.bind ?_ fun _ => ?_ | refine Le.cond ?_ ?_ | refine Le.ite ?_ ?_ | refine Le.thenS ?_ (fun _ => ?_) (fun _ => ?_) | refine Le.loop (fun _ => ?_) _ | refine Le.loopL (fun _ _ => ?_) _ _
def kit_SameLongsc (p1 : (List Int)) (p2 : (List Int)) : Option Bool :=
  thenS (loopF (kit_SameLongs_l1c p1 p2) 0) (fun _ => some ((p1.length : Int) == (p2.length : Int))) (fun r => some r)
theorem kit_SameLongs_le (p1 : (List Int)) (p2 : (List Int)) : Le (kit_SameLongsc p1 p2) (kit_SameLongs p1 p2) := by
  unfold kit_SameLongsc kit_SameLongs
  repeat' first | exact Le.refl _ | exact kit_SameLongs_l1_le _ _ _ | refine Le.bind ?_ fun _ => ?_ | refine Le.cond ?_ ?_ | refine Le.ite ?_ ?_ | refine Le.thenS ?_ (fun _ => ?_) (fun _ => ?_) | refine Le.loop (fun _ => ?_) _ | refine Le.loopL (fun _ _ => ?_) _ _
def law09_awakec : Option Bool :=
  (law09_shownc).bind fun v1 => ((cond ((v1.Mates.length : Int) == 2) (convoy_Agec (Guess.mk 0 200) 2) (some default))).bind fun v2 => ((cond (((v1.Mates.length : Int) == 2) && (v2.R == 130 && (v2.V == 20 && true))) (convoy_Soundc v1) (some default))).bind fun v3 => ((cond ((((v1.Mates.length : Int) == 2) && (v2.R == 130 && (v2.V == 20 && true))) && v3) (convoy_Gapsc v1) (some default))).bind fun v4 => ((cond ((((v1.Mates.length : Int) == 2) && (v2.R == 130 && (v2.V == 20 && true))) && v3) (kit_SameLongsc v4 [6000]) (some default))).bind fun v5 => ((cond (((((v1.Mates.length : Int) == 2) && (v2.R == 130 && (v2.V == 20 && true))) && v3) && v5) (convoy_Safec 0 191 1000 (Guess.mk 1000 100)) (some default))).bind fun v6 => some ((((((v1.Mates.length : Int) == 2) && (v2.R == 130 && (v2.V == 20 && true))) && v3) && v5) && (!v6))
theorem law09_awake_le : Le (law09_awakec) (law09_awake) := by
  unfold law09_awakec law09_awake
  repeat' first | exact Le.refl _ | exact law09_shown_le | exact convoy_Age_le _ _ | exact convoy_Sound_le _ | exact convoy_Gaps_le _ | exact kit_SameLongs_le _ _ | exact convoy_Safe_le _ _ _ _ | refine Le.bind ?_ fun _ => ?_ | refine Le.cond ?_ ?_ | refine Le.ite ?_ ?_ | refine Le.thenS ?_ (fun _ => ?_) (fun _ => ?_) | refine Le.loop (fun _ => ?_) _ | refine Le.loopL (fun _ _ => ?_) _ _
end Go.Abs.Convoy

namespace Go.Abs.Convoy
open Go Go.Abs
theorem awake_eq : law09_awake = some true := law09_awake_le _ (by decide +kernel)
end Go.Abs.Convoy

namespace Go.Abs.Convoy
open Go Go.Abs

theorem cond_some {α : Type} (c : Bool) (a b : α) : cond c (some a) (some b) = some (cond c a b) := by cases c <;> rfl
/-- The place of the first element with a property. -/
theorem index_loop {α : Type} {f : Int → Option (Stp Int (Sum Unit Int))} (l : List α) (P : α → Bool) (hl : l.length ≤ 1000000000) (hf : ∀ (i : Nat) a, l[i]? = some a → f (i : Int) = some (if P a then .out (.inr (i : Int)) else .go (w64 ((i : Int) + 1)))) (he : f (l.length : Int) = some (.out (.inl ()))) :
    loop f 0 = some (match l.findIdx? P with | some i => .inr (i : Int) | none => .inl ()) := by
  have key : ∀ (r : List α) (i : Nat), l.drop i = r → i ≤ l.length → loop f (i : Int) = some (match r.findIdx? P with | some j => .inr ((i + j : Nat) : Int) | none => .inl ()) := by
    intro r
    induction r with
    | nil =>
      intro i hi hil
      have := drop_nil hi
      obtain rfl : i = l.length := by omega
      rw [loop_out he]; rfl
    | cons a r ih =>
      intro i hi _
      have hlt := drop_lt hi
      have h0 : l[i]? = some a := by have := congrArg (fun z => z[0]?) hi; simpa using this
      have hs := hf i a h0
      rw [List.findIdx?_cons]
      by_cases hp : P a = true
      · rw [if_pos hp] at hs
        rw [loop_out hs, if_pos hp]; simp
      · rw [if_neg hp] at hs
        rw [w64_id (by omega)] at hs
        rw [loop_go hs, show ((i : Int) + 1) = ((i + 1 : Nat) : Int) by omega, ih (i + 1) (drop_succ hi) (by omega), if_neg hp]
        cases r.findIdx? P with
        | none => rfl
        | some j => simp only [Option.map_some]; congr 3; omega
  have := key l 0 rfl (by omega)
  rw [show ((0 : Nat) : Int) = 0 from rfl] at this
  rw [this]
  cases l.findIdx? P <;> simp
/-- -1, or the place. -/
def idxI {α : Type} (P : α → Bool) (l : List α) : Int := match l.findIdx? P with | some i => (i : Int) | none => -1
theorem idxI_any {α : Type} (P : α → Bool) (l : List α) : decide (idxI P l ≥ 0) = l.any P := by
  unfold idxI
  cases h : l.findIdx? P with
  | none =>
    have := List.findIdx?_eq_none_iff.1 h
    rw [show l.any P = false by rw [List.any_eq_false]; intro x hx; simpa using this x hx]
    decide
  | some i =>
    have := List.findIdx?_isSome (xs := l) (p := P)
    rw [h] at this
    rw [← this]
    simp
/-- What both twins compute of a list. -/
theorem index_eq {α : Type} {f : Int → Option (Stp Int (Sum Unit Int))} (l : List α) (P : α → Bool) (hl : l.length ≤ 1000000000) (hf : ∀ (i : Nat) a, l[i]? = some a → f (i : Int) = some (if P a then .out (.inr (i : Int)) else .go (w64 ((i : Int) + 1)))) (he : f (l.length : Int) = some (.out (.inl ()))) :
    thenS (loop f 0) (fun _ => some (-1)) (fun r => some r) = some (idxI P l) := by
  rw [index_loop l P hl hf he]
  unfold idxI
  cases l.findIdx? P <;> rfl
theorem geti_some {α : Type} {l : List α} {i : Nat} {a : α} (h : l[i]? = some a) : geti l (i : Int) = some a := by
  unfold geti
  rw [if_pos (by omega), Int.toNat_natCast, h]
theorem get_lt {α : Type} {l : List α} {i : Nat} {a : α} (h : l[i]? = some a) : i < l.length := (List.getElem?_eq_some_iff.1 h).1

/-! ### Numbers that can be computed with -/
def sane1 (n : Int) : Bool := decide (-4398046511104 ≤ n) && decide (n ≤ 4398046511104)
def saneM (l : List Int) : Bool := l.all sane1
theorem convoy_sane_eq (l : List Int) (hl : l.length ≤ 1000000000) : convoy_sane l = some (saneM l) := by
  unfold convoy_sane slices_ContainsFunc_int64_int64_convoy_sane_1 slices_IndexFunc_int64_int64_convoy_sane_1
  rw [index_eq l (fun n => !sane1 n) hl (fun i a h => by
    have := get_lt h
    unfold slices_IndexFunc_int64_int64_convoy_sane_1_l1 convoy_sane_1 convoy_within
    rw [show decide ((i : Int) < (l.length : Int)) = true from decide_eq_true (by omega), geti_some h]
    simp only [cond_true, Option.bind_some]
    unfold sane1
    cases (decide (-4398046511104 ≤ a) && decide (a ≤ 4398046511104)) <;> rfl) (by
    unfold slices_IndexFunc_int64_int64_convoy_sane_1_l1
    simp)]
  simp only [Option.bind_some, idxI_any, Option.some.injEq, saneM]
  rw [Bool.eq_iff_iff]
  simp [List.all_eq_true, List.any_eq_false]
theorem ref09_sane_eq (l : List Int) (hl : l.length ≤ 1000000000) : ref09_sane l = some (saneM l) := by
  have key : ∀ (r : List Int) (i : Nat), l.drop i = r → loop (ref09_sane_l1 l) (i : Int) = some (if r.all sane1 then .inl () else .inr false) := by
    intro r
    induction r with
    | nil =>
      intro i hi
      have := drop_nil hi
      refine loop_out ?_
      unfold ref09_sane_l1
      rw [show decide ((i : Int) < (l.length : Int)) = false from decide_eq_false (by omega)]
      rfl
    | cons a r ih =>
      intro i hi
      have hlt := drop_lt hi
      have hs : ref09_sane_l1 l (i : Int) = some (if sane1 a then .go ((i : Int) + 1) else .out (.inr false)) := by
        unfold ref09_sane_l1
        rw [show decide ((i : Int) < (l.length : Int)) = true from decide_eq_true (by omega), geti_drop hi, w64_id (by omega)]
        simp only [cond_true, Option.bind_some, cond_some]
        unfold sane1
        by_cases h1 : a < -4398046511104
        · rw [show decide (a < -4398046511104) = true from decide_eq_true h1, show decide (-4398046511104 ≤ a) = false from decide_eq_false (by omega)]; rfl
        · rw [show decide (a < -4398046511104) = false from decide_eq_false h1, show decide (-4398046511104 ≤ a) = true from decide_eq_true (by omega)]
          simp only [Bool.not_false, cond_true, Bool.false_or, Bool.true_and]
          by_cases h2 : a > 4398046511104
          · rw [show decide (a > 4398046511104) = true from decide_eq_true h2, show decide (a ≤ 4398046511104) = false from decide_eq_false (by omega)]; rfl
          · rw [show decide (a > 4398046511104) = false from decide_eq_false h2, show decide (a ≤ 4398046511104) = true from decide_eq_true (by omega)]; rfl
      by_cases hp : sane1 a = true
      · rw [if_pos hp] at hs
        rw [loop_go hs, show ((i : Int) + 1) = ((i + 1 : Nat) : Int) by omega, ih (i + 1) (drop_succ hi), List.all_cons, hp, Bool.true_and]
      · rw [if_neg hp] at hs
        rw [loop_out hs, List.all_cons, show sane1 a = false by simpa using hp]; rfl
  unfold ref09_sane
  have := key l 0 rfl
  rw [show ((0 : Nat) : Int) = 0 from rfl] at this
  rw [this]
  unfold saneM
  cases l.all sane1 <;> rfl
theorem sane1_iff {n : Int} : sane1 n = true ↔ -4398046511104 ≤ n ∧ n ≤ 4398046511104 := by simp [sane1]

/-! ### The way to stop -/
def stopM (v : Int) : Int := if v < 1 then 0 else (min v 1000000 - 1) / 90 * min v 1000000 - 90 * ((min v 1000000 - 1) / 90 * ((min v 1000000 - 1) / 90 + 1) / 2)
theorem tri_even (n : Int) : ∃ k, n * (n + 1) = 2 * k := by
  have : n % 2 = 0 ∨ n % 2 = 1 := by omega
  rcases this with h | h
  · obtain ⟨m, rfl⟩ : ∃ m, n = 2 * m := ⟨n / 2, by omega⟩
    exact ⟨m * (2 * m + 1), Int.mul_assoc _ _ _⟩
  · obtain ⟨m, rfl⟩ : ∃ m, n = 2 * m + 1 := ⟨n / 2, by omega⟩
    exact ⟨(2 * m + 1) * (m + 1), by rw [show 2 * m + 1 + 1 = 2 * (m + 1) by omega, Int.mul_left_comm]⟩
theorem nn_bd {n : Int} (h0 : 0 ≤ n) (h1 : n ≤ 11112) : 0 ≤ n * (n + 1) ∧ n * (n + 1) ≤ 200000000 := by
  refine ⟨Int.mul_nonneg h0 (by omega), ?_⟩
  have := Int.mul_le_mul h1 (show n + 1 ≤ 11113 by omega) (by omega) (by decide)
  omega
theorem convoy_stop_eq (v : Int) : convoy_stop v = some (stopM v) := by
  unfold convoy_stop world_Stop stopM
  by_cases h : v < 1
  · simp [h]
  · rw [show decide (v < 1) = false from decide_eq_false h, if_neg h]
    simp only [Bool.false_or, show decide ((90 : Int) < 1) = false from rfl, cond_false, mm2_min]
    generalize hw : min v 1000000 = w
    have w1 : 1 ≤ w ∧ w ≤ 1000000 := by omega
    rw [w64_id (n := w - 1) (by omega), show min (90 : Int) 1000000 = 90 from rfl]
    unfold quoc
    rw [if_neg (by decide), Int.tdiv_eq_ediv_of_nonneg (by omega)]
    generalize hn : (w - 1) / 90 = n
    have n1 : 0 ≤ n ∧ n ≤ 11112 := by omega
    have t := nn_bd n1.1 n1.2
    have m1 : 0 ≤ n * w ∧ n * w ≤ 11112000000 := by
      refine ⟨Int.mul_nonneg n1.1 (by omega), ?_⟩
      have := Int.mul_le_mul n1.2 w1.2 (by omega) (by decide)
      omega
    simp only [Option.bind_some]
    rw [show IntKind.i64.wrap n = n from w64_id (by omega), w64_id (n := n * w) (by omega), w64_id (n := n + 1) (by omega), w64_id (n := n * (n + 1)) (by omega), Int.tdiv_eq_ediv_of_nonneg t.1, w64_id (n := n * (n + 1) / 2) (by omega), w64_id (n := 90 * (n * (n + 1) / 2)) (by omega), w64_id (by omega)]
theorem stopM_small {v : Int} (h : v ≤ 90) : stopM v = 0 := by
  unfold stopM
  split
  · rfl
  · rw [show (min v 1000000 - 1) / 90 = 0 by omega]; simp
theorem stopM_step {v : Int} (h : 90 < v) (h1 : v ≤ 1000000) : stopM v = v - 90 + stopM (v - 90) := by
  unfold stopM
  rw [if_neg (by omega)]
  by_cases h2 : v - 90 < 1
  · omega
  · rw [if_neg h2, show min v 1000000 = v by omega, show min (v - 90) 1000000 = v - 90 by omega, show (v - 90 - 1) / 90 = (v - 1) / 90 - 1 by omega]
    generalize (v - 1) / 90 = n
    obtain ⟨k, hk⟩ := tri_even n
    have e2 : (n - 1) * (n - 1 + 1) = 2 * (k - n) := by
      have : (n - 1) * (n - 1 + 1) = n * (n + 1) - 2 * n := by grind
      rw [this, hk]; omega
    rw [hk, e2, Int.mul_ediv_cancel_left k (by decide), Int.mul_ediv_cancel_left (k - n) (by decide)]
    have : (n - 1) * (v - 90) = n * v - 90 * n - v + 90 := by grind
    rw [this]
    omega
theorem stopM_nonneg (v : Int) : 0 ≤ stopM v ∧ stopM v ≤ 11112000000 := by
  unfold stopM
  split
  · omega
  · generalize hw : min v 1000000 = w
    have w1 : 1 ≤ w ∧ w ≤ 1000000 := by omega
    generalize hn : (w - 1) / 90 = n
    have n1 : 0 ≤ n ∧ n ≤ 11112 := by omega
    have t := nn_bd n1.1 n1.2
    have m1 : n * w ≤ 11112000000 := by
      have := Int.mul_le_mul n1.2 w1.2 (by omega) (by decide)
      omega
    have m2 : n * (90 * n + 1) ≤ n * w := Int.mul_le_mul_of_nonneg_left (by omega) n1.1
    have m3 : n * (90 * n + 1) = 90 * (n * n) + n := by grind
    have m5 : n * (n + 1) = n * n + n := by grind
    have m4 : n ≤ n * n := by
      rcases (show n = 0 ∨ 1 ≤ n by omega) with h | h
      · rw [h]; decide
      · have := Int.mul_le_mul_of_nonneg_left h n1.1
        omega
    omega
end Go.Abs.Convoy

namespace Go.Abs.Convoy
open Go Go.Abs

theorem ref04_loop : ∀ (m : Nat) (v n : Int), v ≤ 90 + 90 * m → v ≤ 1000000 → -9000000000000 ≤ v → 0 ≤ n → n + 1000000 * m ≤ 100000000000 → loop (ref04_Stop_l1 90) (v, n) = some (n + stopM v) := by
  intro m
  induction m with
  | zero =>
    intro v n h _ _ _ _
    refine loop_out ?_
    unfold ref04_Stop_l1
    rw [mm2_min, show min (90 : Int) 1000000 = 90 from rfl, show decide (v > 90) = false from decide_eq_false (by omega), stopM_small (by omega), Int.add_zero]
    rfl
  | succ m ih =>
    intro v n h h1 h2 h3 h4
    by_cases hv : v > 90
    · have hs : ref04_Stop_l1 90 (v, n) = some (.go (v - 90, n + (v - 90))) := by
        unfold ref04_Stop_l1
        rw [mm2_min, show min (90 : Int) 1000000 = 90 from rfl, show decide (v > 90) = true from decide_eq_true hv]
        dsimp only
        rw [w64_id (n := v - 90) (by omega), w64_id (n := n + (v - 90)) (by omega)]
        rfl
      rw [loop_go hs, ih _ _ (by omega) (by omega) (by omega) (by omega) (by omega), stopM_step hv h1]
      congr 1; omega
    · refine loop_out ?_
      unfold ref04_Stop_l1
      rw [mm2_min, show min (90 : Int) 1000000 = 90 from rfl, show decide (v > 90) = false from decide_eq_false hv, stopM_small (by omega), Int.add_zero]
      rfl
theorem stopM_min (v : Int) : stopM (min v 1000000) = stopM v := by
  unfold stopM
  rw [show min (min v 1000000) 1000000 = min v 1000000 by omega]
  by_cases h : v < 1
  · rw [if_pos (by omega), if_pos h]
  · rw [if_neg (by omega), if_neg h]
theorem ref09_stop_eq (v : Int) : ref09_stop v = some (stopM v) := by
  unfold ref09_stop ref04_Stop
  rw [mm2_min, mm2_min, show min (90 : Int) 1000000 = 90 from rfl]
  by_cases h : v < 1
  · rw [show decide (min v 1000000 < 1) = true from decide_eq_true (by omega), stopM_small (by omega)]
    rfl
  · rw [show decide (min v 1000000 < 1) = false from decide_eq_false (by omega), show decide ((90 : Int) < 1) = false from rfl]
    simp only [Bool.or_self, cond_false]
    rw [ref04_loop 11111 (min v 1000000) 0 (by omega) (by omega) (by omega) (by omega) (by omega), stopM_min]
    simp
theorem saneM5 {a b c d e : Int} (h : saneM [a, b, c, d, e] = true) : (-4398046511104 ≤ a ∧ a ≤ 4398046511104) ∧ (-4398046511104 ≤ b ∧ b ≤ 4398046511104) ∧ (-4398046511104 ≤ c ∧ c ≤ 4398046511104) ∧ (-4398046511104 ≤ d ∧ d ≤ 4398046511104) ∧ -4398046511104 ≤ e ∧ e ≤ 4398046511104 := by
  simpa [saneM, sane1_iff] using h
/-- Where the one of a guess comes to a standstill at least. -/
def endM (g : Guess) : Int := g.R + stopM g.V
theorem convoy_end_eq {g : Guess} (h : -4398046511104 ≤ g.R ∧ g.R ≤ 4398046511104) : convoy_end g = some (endM g) := by
  unfold convoy_end
  have := stopM_nonneg g.V
  rw [convoy_stop_eq, Option.bind_some, w64_id (by omega)]; rfl
def safeM (s v gap : Int) (g : Guess) : Bool := saneM [s, v, gap, g.R, g.V] && decide (s ≤ g.R - gap) && decide (s + stopM v ≤ endM g - gap)
theorem convoy_Safe_eq (s v gap : Int) (g : Guess) : convoy_Safe s v gap g = some (safeM s v gap g) := by
  unfold convoy_Safe safeM
  rw [convoy_sane_eq _ (by simp), Option.bind_some]
  cases hs : saneM [s, v, gap, g.R, g.V]
  · simp
  · have b := saneM5 hs
    have := stopM_nonneg v
    have := stopM_nonneg g.V
    rw [w64_id (n := g.R - gap) (by omega), convoy_end_eq b.2.2.2.1, convoy_stop_eq]
    by_cases hr : s ≤ g.R - gap
    · rw [show decide (s ≤ g.R - gap) = true from decide_eq_true hr]
      simp only [Bool.and_self, cond_true, Option.bind_some]
      rw [w64_id (by omega), w64_id (by unfold endM; omega)]
    · rw [show decide (s ≤ g.R - gap) = false from decide_eq_false hr]
      simp
theorem ref09_Safe_eq (s v gap : Int) (g : Guess) : ref09_Safe s v gap g = some (safeM s v gap g) := by
  unfold ref09_Safe safeM
  rw [ref09_sane_eq _ (by simp), Option.bind_some]
  cases hs : saneM [s, v, gap, g.R, g.V]
  · simp
  · have b := saneM5 hs
    have := stopM_nonneg v
    have := stopM_nonneg g.V
    rw [w64_id (n := g.R - gap) (by omega), ref09_stop_eq, ref09_stop_eq]
    by_cases hr : s ≤ g.R - gap
    · rw [show decide (s ≤ g.R - gap) = true from decide_eq_true hr]
      simp only [Bool.and_self, cond_true, Option.bind_some]
      rw [w64_id (n := s + _) (by omega), w64_id (n := g.R + _) (by omega), w64_id (by omega)]; rfl
    · rw [show decide (s ≤ g.R - gap) = false from decide_eq_false hr]
      simp
end Go.Abs.Convoy

namespace Go.Abs.Convoy
open Go Go.Abs

end Go.Abs.Convoy

namespace Go.Abs.Convoy
open Go Go.Abs

theorem and_cond (c b d : Bool) : (c && cond c b d) = (c && b) := by cases c <;> rfl
def within (n a b : Int) : Bool := decide (a ≤ n) && decide (n ≤ b)
theorem convoy_within_eq (n a b : Int) : convoy_within n a b = some (within n a b) := rfl
theorem ref09_between_eq (n a b : Int) : ref09_between n a b = some (within n a b) := rfl
def bodyM (id s v l : Int) : Bool := within id 1 99 && (within s 0 1099511627776 && (within v 0 2000 && within l 300 20000))
def guessM (g : Guess) : Bool := within g.R (-20000) 2199023255552 && within g.V 0 2000
def mateM (m : Mate) : Bool := bodyM m.ID m.S m.V m.Len && (within m.Ahead 0 99 && (within m.Ward 0 99 && (within m.Until 0 2199023255552 && (guessM m.Guess_ && guessM m.WardGuess))))
def guestM (g : Guest) : Bool := bodyM g.ID g.S g.V g.Len && (within g.Ahead 0 99 && (within g.From 0 99 && (within g.Until 0 2199023255552 && (within g.End 0 1099511627776 && guessM g.Guess_))))
def noGuest (g : Guest) : Bool := g.ID == 0 && (g.S == 0 && (g.V == 0 && (g.Len == 0 && (g.End == 0 && (g.Ahead == 0 && (g.Guess_.R == 0 && (g.Guess_.V == 0 && (g.From == 0 && (g.Until == 0 && true)))))))))
theorem fairBody_eq (id s v l : Int) : convoy_fairBody id s v l = some (bodyM id s v l) := by
  unfold convoy_fairBody bodyM
  simp only [convoy_within_eq, cond_some, Option.bind_some, and_cond]
  simp only [within, ge_iff_le, Bool.and_assoc]
theorem moving_eq (id s v l : Int) : ref09_moving id s v l = some (bodyM id s v l) := by
  unfold ref09_moving bodyM
  simp only [ref09_between_eq, cond_some, Option.bind_some, and_cond]
  simp only [Bool.and_assoc]
theorem fairGuess_eq (g : Guess) : convoy_fairGuess g = some (guessM g) := by
  unfold convoy_fairGuess guessM
  simp only [convoy_within_eq, cond_some, Option.bind_some, and_cond]
theorem guessed_eq (g : Guess) : ref09_guessed g = some (guessM g) := by
  unfold ref09_guessed guessM
  simp only [ref09_between_eq, cond_some, Option.bind_some, and_cond]
theorem fairID_eq (n : Int) : convoy_fairID n = some (within n 0 99) := rfl
theorem fairMate_eq (m : Mate) : convoy_fairMate m = some (mateM m) := by
  unfold convoy_fairMate mateM
  simp only [convoy_within_eq, fairBody_eq, fairGuess_eq, fairID_eq, cond_some, Option.bind_some, and_cond]
  simp only [Bool.and_assoc]
theorem ref09_mate_eq (m : Mate) : ref09_mate m = some (mateM m) := by
  unfold ref09_mate mateM
  simp only [ref09_between_eq, moving_eq, guessed_eq, cond_some, Option.bind_some, and_cond]
  simp only [Bool.and_assoc]
theorem fairGuest_eq (g : Guest) : convoy_fairGuest g = some (noGuest g || guestM g) := by
  unfold convoy_fairGuest guestM
  simp only [convoy_within_eq, fairBody_eq, fairGuess_eq, fairID_eq, cond_some, Option.bind_some, and_cond]
  cases h : (g.ID == 0)
  · have : noGuest g = false := by unfold noGuest; rw [h]; rfl
    rw [this]
    simp only [cond_false, Bool.false_or, Bool.and_assoc]
  · have : bodyM g.ID g.S g.V g.Len = false := by
      have e : g.ID = 0 := by simpa using h
      unfold bodyM within; rw [e]; rfl
    rw [this]
    simp only [cond_true, Bool.false_and, Bool.or_false]
    unfold noGuest; rw [h]
theorem ref09_guest_eq (g : Guest) : ref09_guest g = some (guestM g) := by
  unfold ref09_guest guestM
  simp only [ref09_between_eq, moving_eq, guessed_eq, cond_some, Option.bind_some, and_cond]
  simp only [Bool.and_assoc]

/-! ### Loops that look for what is bad -/
def anyI {α : Type} (P : Nat → α → Bool) : Nat → List α → Bool
  | _, [] => false
  | i, a :: r => P i a || anyI P (i + 1) r
theorem scan {α τ : Type} {f : Int → Option (Stp Int (Sum Unit τ))} (l : List α) (P : Nat → α → Bool) (e : τ) (hl : l.length ≤ 1000000000) (k : Nat) (hf : ∀ (i : Nat) a, k ≤ i → l[i]? = some a → f (i : Int) = some (if P i a then .out (.inr e) else .go (w64 ((i : Int) + 1)))) (he : f (l.length : Int) = some (.out (.inl ()))) (hk : k ≤ l.length) :
    loop f (k : Int) = some (if anyI P k (l.drop k) then .inr e else .inl ()) := by
  have key : ∀ (r : List α) (i : Nat), l.drop i = r → k ≤ i → i ≤ l.length → loop f (i : Int) = some (if anyI P i r then .inr e else .inl ()) := by
    intro r
    induction r with
    | nil =>
      intro i hi _ hil
      have := drop_nil hi
      obtain rfl : i = l.length := by omega
      rw [loop_out he]; rfl
    | cons a r ih =>
      intro i hi hki _
      have hlt := drop_lt hi
      have h0 : l[i]? = some a := by have := congrArg (fun z => z[0]?) hi; simpa using this
      have hs := hf i a hki h0
      rw [anyI]
      cases hp : P i a
      · rw [hp] at hs
        simp only [Bool.false_eq_true, if_false] at hs
        rw [w64_id (by omega)] at hs
        rw [loop_go hs, show ((i : Int) + 1) = ((i + 1 : Nat) : Int) by omega, ih (i + 1) (drop_succ hi) (by omega) (by omega), Bool.false_or]
      · rw [hp] at hs
        rw [loop_out hs]; rfl
  exact key _ k rfl (Nat.le_refl _) hk
theorem anyI_any {α : Type} (P : α → Bool) : ∀ (l : List α) (i : Nat), anyI (fun _ => P) i l = l.any P
  | [], _ => rfl
  | a :: r, i => by rw [anyI, anyI_any P r, List.any_cons]
theorem contains_numbers (l : List Mate) (hl : l.length ≤ 1000000000) : slices_ContainsFunc_Mate_Mate_convoy_numbers_1 l = some (l.any fun m => !mateM m) := by
  unfold slices_ContainsFunc_Mate_Mate_convoy_numbers_1 slices_IndexFunc_Mate_Mate_convoy_numbers_1
  rw [index_eq l (fun m => !mateM m) hl (fun i a h => by
    have := get_lt h
    unfold slices_IndexFunc_Mate_Mate_convoy_numbers_1_l1 convoy_numbers_1
    rw [show decide ((i : Int) < (l.length : Int)) = true from decide_eq_true (by omega), geti_some h]
    simp only [cond_true, Option.bind_some, fairMate_eq]
    cases mateM a <;> rfl) (by
    unfold slices_IndexFunc_Mate_Mate_convoy_numbers_1_l1
    simp)]
  simp only [Option.bind_some, idxI_any]
/-- The error of the numbers. -/
def numM (c : Convoy) : Int := if !within c.Tick 0 1099511627776 || !within c.Gap 1 20000 then 2 else if c.Mates.length = 0 then 6 else if c.Mates.length + (if noGuest c.Guest_ then 0 else 1) > 8 then 8 else if (c.Mates.any fun m => !mateM m) || !(noGuest c.Guest_ || guestM c.Guest_) then 2 else 0
theorem many_eq (c : Convoy) (hl : c.Mates.length ≤ 1000000) : (cond (!(noGuest c.Guest_)) (some (w64 ((c.Mates.length : Int) + 1))) (some (c.Mates.length : Int))) = some (((c.Mates.length + (if noGuest c.Guest_ then 0 else 1) : Nat)) : Int) := by
  cases noGuest c.Guest_
  · simp only [Bool.not_false, cond_true]; rw [w64_id (by omega)]; rfl
  · rfl
theorem convoy_numbers_eq (c : Convoy) (hl : c.Mates.length ≤ 1000000) : convoy_numbers c = some (numM c) := by
  unfold convoy_numbers numM
  have hm := many_eq c hl
  unfold noGuest at hm
  rw [hm, Option.bind_some]
  clear hm
  change _ = some (if !within c.Tick 0 1099511627776 || !within c.Gap 1 20000 then 2 else if c.Mates.length = 0 then 6 else if c.Mates.length + (if noGuest c.Guest_ then 0 else 1) > 8 then 8 else if (c.Mates.any fun m => !mateM m) || !(noGuest c.Guest_ || guestM c.Guest_) then 2 else 0)
  change ((convoy_within c.Tick 0 1099511627776).bind fun v1 => ((cond (!(!v1)) (convoy_within c.Gap 1 20000) (some default))).bind fun v2 => cond ((!v1) || (!v2)) (some 2) (cond ((c.Mates.length : Int) == 0) (some 6) (cond (decide (((c.Mates.length + (if noGuest c.Guest_ then 0 else 1) : Nat) : Int) > 8)) (some 8) ((slices_ContainsFunc_Mate_Mate_convoy_numbers_1 c.Mates).bind fun v3 => ((cond (!v3) (convoy_fairGuest c.Guest_) (some default))).bind fun v4 => cond (v3 || (!v4)) (some 2) (some 0))))) = _
  simp only [convoy_within_eq, Bool.not_not, Option.bind_some, cond_some, contains_numbers c.Mates (by omega), fairGuest_eq]
  have e1 : (!within c.Tick 0 1099511627776 || !(cond (within c.Tick 0 1099511627776) (within c.Gap 1 20000) default)) = (!within c.Tick 0 1099511627776 || !within c.Gap 1 20000) := by cases within c.Tick 0 1099511627776 <;> rfl
  have e2 : ∀ a b d : Bool, (a || !(cond (!a) b d)) = (a || !b) := by intro a b d; cases a <;> rfl
  rw [e1, e2]
  generalize (!within c.Tick 0 1099511627776 || !within c.Gap 1 20000) = b1
  generalize ((c.Mates.any fun m => !mateM m) || !(noGuest c.Guest_ || guestM c.Guest_)) = b2
  cases b1
  · simp only [cond_false, Bool.false_eq_true, if_false]
    by_cases h0 : c.Mates.length = 0
    · rw [h0]; rfl
    · rw [show ((c.Mates.length : Int) == 0) = false by simpa using h0, if_neg h0]
      simp only [cond_false]
      by_cases h8 : c.Mates.length + (if noGuest c.Guest_ then 0 else 1) > 8
      · rw [if_pos h8, show decide (((c.Mates.length + (if noGuest c.Guest_ then 0 else 1) : Nat) : Int) > 8) = true from decide_eq_true (by omega)]; rfl
      · rw [if_neg h8, show decide (((c.Mates.length + (if noGuest c.Guest_ then 0 else 1) : Nat) : Int) > 8) = false from decide_eq_false (by omega)]
        cases b2 <;> rfl
  · rfl
end Go.Abs.Convoy

namespace Go.Abs.Convoy
open Go Go.Abs

/-! ### IDs, the order, states, clashes -/
def dupP (c : Convoy) (i : Nat) (m : Mate) : Bool := (c.Mates.take i).any (fun k => k.ID == m.ID) || m.ID == c.Guest_.ID
def ordP (c : Convoy) (i : Nat) (m : Mate) : Bool := decide (0 < i) && (match c.Mates[i - 1]? with | some k => decide (w64 (k.S - k.Len) ≤ m.S) | none => false)
def staP (i : Nat) (m : Mate) : Bool := ((i == 0) && m.Ahead != 0) || ((decide (0 < i) && m.Ahead == 0) && m.Until == 0) || (m.Ward == 0 && m.Until != 0)
def keepM (gap : Int) (m : Mate) (s v : Int) (g w : Guess) : Bool := (m.Ahead == 0 || safeM s v gap g) && (m.Until == 0 || safeM s v gap w)
def guestBad (c : Convoy) : Bool := (c.Guest_.ID != 0) && decide (c.Guest_.End ≤ w64 (c.Guest_.S + stopM c.Guest_.V))
def ordM (c : Convoy) : Int := if anyI (dupP c) 0 c.Mates then 9 else if anyI (ordP c) 0 c.Mates then 11 else 0
theorem mem_insm (ks : List Int) (n m : Int) : (insm ks n).contains m = (ks.contains m || m == n) := by
  unfold insm
  rw [Bool.eq_iff_iff]
  split
  · rename_i h
    simp only [List.contains_eq_mem, decide_eq_true_eq, Bool.or_eq_true, beq_iff_eq]
    constructor
    · exact .inl
    · rintro (q | rfl)
      · exact q
      · exact h
  · simp
theorem orders_l1 (c : Convoy) (hl : c.Mates.length ≤ 1000000) : ∀ (r : List Mate) (i : Nat) (ks : List Int), c.Mates.drop i = r → (∀ m, ks.contains m = ((c.Mates.take i).any (fun k => k.ID == m) || m == c.Guest_.ID)) → loop (convoy_orders_l1 c) ((i : Int), ks) = some (if anyI (dupP c) i r then .inr 9 else .inl ()) := by
  intro r
  induction r with
  | nil =>
    intro i ks hi _
    have := drop_nil hi
    refine loop_out ?_
    unfold convoy_orders_l1
    rw [show decide ((i : Int) < (c.Mates.length : Int)) = false from decide_eq_false (by omega)]; rfl
  | cons a r ih =>
    intro i ks hi hks
    have hlt := drop_lt hi
    have hd : ks.contains a.ID = dupP c i a := hks a.ID
    have hs : convoy_orders_l1 c ((i : Int), ks) = some (if dupP c i a then .out (.inr 9) else .go (((i + 1 : Nat) : Int), insm ks a.ID)) := by
      unfold convoy_orders_l1
      rw [show decide ((i : Int) < (c.Mates.length : Int)) = true from decide_eq_true (by omega)]
      dsimp only
      rw [geti_drop hi, w64_id (by omega)]
      simp only [cond_true, Option.bind_some, hd]
      cases dupP c i a <;> rfl
    rw [anyI]
    cases hp : dupP c i a
    · rw [hp] at hs
      rw [loop_go hs, Bool.false_or]
      refine ih (i + 1) _ (drop_succ hi) fun m => ?_
      rw [mem_insm, hks m]
      have h0 : c.Mates[i]? = some a := by have := congrArg (fun z => z[0]?) hi; simpa using this
      rw [List.take_add_one, h0]
      simp only [List.any_append, Option.toList_some, List.any_cons, List.any_nil, Bool.or_false]
      rw [Bool.beq_comm (a := m) (b := a.ID)]
      cases (c.Mates.take i).any (fun k => k.ID == m) <;> cases (m == c.Guest_.ID) <;> cases (a.ID == m) <;> rfl
    · rw [hp] at hs
      rw [loop_out hs]; rfl
theorem convoy_rear_eq (m : Mate) : convoy_rear m = some (w64 (m.S - m.Len)) := rfl
theorem ref09_rear_eq (m : Mate) : ref09_rear m = some (w64 (m.S - m.Len)) := rfl
theorem ord_at {c : Convoy} (hl : c.Mates.length ≤ 1000000) {i : Nat} {m : Mate} (hi : 0 < i) (h : c.Mates[i]? = some m) : ∃ k, geti c.Mates (w64 ((i : Int) - 1)) = some k ∧ ordP c i m = decide (w64 (k.S - k.Len) ≤ m.S) ∧ c.Mates[i - 1]? = some k := by
  have hlt := get_lt h
  have : i - 1 < c.Mates.length := by omega
  refine ⟨c.Mates[i - 1], ?_, ?_, List.getElem?_eq_getElem this⟩
  · rw [w64_id (by omega), show (i : Int) - 1 = ((i - 1 : Nat) : Int) by omega, geti_nat this]
  · unfold ordP
    rw [List.getElem?_eq_getElem this, show decide (0 < i) = true from decide_eq_true hi, Bool.true_and]
theorem convoy_orders_eq (c : Convoy) (hl : c.Mates.length ≤ 1000000) : convoy_orders c = some (ordM c) := by
  unfold convoy_orders ordM
  have h1 := orders_l1 c hl c.Mates 0 (insm [] c.Guest_.ID) rfl (fun m => by
    rw [mem_insm]; simp)
  rw [show ((0 : Nat) : Int) = 0 from rfl] at h1
  rw [h1]
  cases anyI (dupP c) 0 c.Mates
  · have h2 := scan (f := convoy_orders_l2 c) c.Mates (ordP c) (11 : Int) (by omega) 0 (fun i a _ h => by
      have hlt := get_lt h
      unfold convoy_orders_l2
      rw [show decide ((i : Int) < (c.Mates.length : Int)) = true from decide_eq_true (by omega), geti_some h]
      simp only [cond_true, Option.bind_some]
      by_cases hi : 0 < i
      · obtain ⟨k, e1, e2, _⟩ := ord_at hl hi h
        rw [show decide ((i : Int) > 0) = true from decide_eq_true (by omega), e1, e2]
        simp only [cond_true, Option.bind_some, convoy_rear_eq, Bool.true_and, ge_iff_le]
        cases decide (w64 (k.S - k.Len) ≤ a.S) <;> rfl
      · have : ordP c i a = false := by unfold ordP; rw [show decide (0 < i) = false from decide_eq_false hi]; rfl
        rw [show decide ((i : Int) > 0) = false from decide_eq_false (by omega), this]
        rfl) (by unfold convoy_orders_l2; simp) (by omega)
    rw [show ((0 : Nat) : Int) = 0 from rfl, List.drop_zero] at h2
    simp only [Bool.false_eq_true, if_false, thenS]
    rw [h2]
    cases anyI (ordP c) 0 c.Mates <;> rfl
  · rfl
theorem ref_l3 (c : Convoy) (hl : c.Mates.length ≤ 1000000) {i : Nat} {m : Mate} (h : c.Mates[i]? = some m) : loop (ref09_numbers_l3 c (i : Int)) 0 = some (if (c.Mates.take i).any (fun k => k.ID == m.ID) then .inr 9 else .inl ()) := by
  have hlt := get_lt h
  have hlen : (c.Mates.take i).length = i := by rw [List.length_take]; omega
  have := scan (f := ref09_numbers_l3 c (i : Int)) (c.Mates.take i) (fun _ k => k.ID == m.ID) (9 : Int) (by omega) 0 (fun j a _ ha => by
    have hj := get_lt ha
    rw [hlen] at hj
    have ha' : c.Mates[j]? = some a := by rw [List.getElem?_take, if_pos hj] at ha; exact ha
    unfold ref09_numbers_l3
    rw [show decide ((j : Int) < (i : Int)) = true from decide_eq_true (by omega), geti_some ha', geti_some h]
    simp only [cond_true, Option.bind_some]
    cases (a.ID == m.ID) <;> rfl) (by
    rw [hlen]
    unfold ref09_numbers_l3; simp) (by omega)
  rw [show ((0 : Nat) : Int) = 0 from rfl, List.drop_zero, anyI_any] at this
  exact this
theorem ref09_numbers_eq (c : Convoy) (hl : c.Mates.length ≤ 1000000) : ref09_numbers c = some (if numM c ≠ 0 then numM c else if anyI (dupP c) 0 c.Mates then 9 else 0) := by
  unfold ref09_numbers
  have hm := many_eq c hl
  have h1 := scan (f := ref09_numbers_l1 c) c.Mates (fun _ m => !mateM m) (2 : Int) (by omega) 0 (fun i a _ h => by
    have hlt := get_lt h
    unfold ref09_numbers_l1
    rw [show decide ((i : Int) < (c.Mates.length : Int)) = true from decide_eq_true (by omega), geti_some h]
    simp only [cond_true, Option.bind_some, ref09_mate_eq]
    cases mateM a <;> rfl) (by unfold ref09_numbers_l1; simp) (by omega)
  have h2 := scan (f := ref09_numbers_l2 c) c.Mates (dupP c) (9 : Int) (by omega) 0 (fun i a _ h => by
    have hlt := get_lt h
    unfold ref09_numbers_l2
    rw [show decide ((i : Int) < (c.Mates.length : Int)) = true from decide_eq_true (by omega), ref_l3 c hl h, geti_some h]
    unfold dupP
    cases (c.Mates.take i).any (fun k => k.ID == a.ID)
    · simp only [cond_true, Bool.false_eq_true, if_false, thenS, Option.bind_some, Bool.false_or]
      cases (a.ID == c.Guest_.ID) <;> rfl
    · rfl) (by unfold ref09_numbers_l2; simp) (by omega)
  rw [show ((0 : Nat) : Int) = 0 from rfl, List.drop_zero] at h1 h2
  rw [anyI_any] at h1
  change ((ref09_between c.Tick 0 1099511627776).bind fun v1 => ((cond (!(!v1)) (ref09_between c.Gap 1 20000) (some default))).bind fun v2 => cond ((!v1) || (!v2)) (some 2) (cond ((c.Mates.length : Int) == 0) (some 6) ((cond (!(noGuest c.Guest_)) (some (w64 ((c.Mates.length : Int) + 1))) (some (c.Mates.length : Int))).bind fun y1 => cond (decide (y1 > 8)) (some 8) (thenS (loop (ref09_numbers_l1 c) 0) (fun _ => ((cond (!(noGuest c.Guest_)) (ref09_guest c.Guest_) (some default))).bind fun v5 => cond ((!(noGuest c.Guest_)) && (!v5)) (some 2) (thenS (loop (ref09_numbers_l2 c) 0) (fun _ => some 0) (fun r => some r))) (fun r => some r))))) = _
  rw [hm, h1, h2]
  simp only [ref09_between_eq, Bool.not_not, Option.bind_some, cond_some, ref09_guest_eq]
  have e1 : (!within c.Tick 0 1099511627776 || !(cond (within c.Tick 0 1099511627776) (within c.Gap 1 20000) default)) = (!within c.Tick 0 1099511627776 || !within c.Gap 1 20000) := by cases within c.Tick 0 1099511627776 <;> rfl
  have e2 : ∀ a b d : Bool, (!a && !(cond (!a) b d)) = (!a && !b) := by intro a b d; cases a <;> rfl
  rw [e1, e2]
  unfold numM
  generalize (!within c.Tick 0 1099511627776 || !within c.Gap 1 20000) = b1
  cases b1
  · simp only [cond_false, Bool.false_eq_true, if_false]
    by_cases h0 : c.Mates.length = 0
    · rw [h0]; rfl
    · rw [show ((c.Mates.length : Int) == 0) = false by simpa using h0, if_neg h0]
      simp only [cond_false]
      by_cases h8 : c.Mates.length + (if noGuest c.Guest_ then 0 else 1) > 8
      · rw [if_pos h8, show decide (((c.Mates.length + (if noGuest c.Guest_ then 0 else 1) : Nat) : Int) > 8) = true from decide_eq_true (by omega)]; rfl
      · rw [if_neg h8, show decide (((c.Mates.length + (if noGuest c.Guest_ then 0 else 1) : Nat) : Int) > 8) = false from decide_eq_false (by omega)]
        cases (c.Mates.any fun m => !mateM m)
        · cases noGuest c.Guest_ <;> cases guestM c.Guest_ <;> cases anyI (dupP c) 0 c.Mates <;> rfl
        · rfl
  · rfl
theorem keeps_eq (gap : Int) (m : Mate) (s v : Int) (g w : Guess) : convoy_keeps gap m s v g w = some (keepM gap m s v g w) := by
  unfold convoy_keeps keepM
  simp only [convoy_Safe_eq, cond_some, Option.bind_some]
  cases (m.Ahead == 0) <;> cases safeM s v gap g <;> cases (m.Until == 0) <;> rfl
def clashP (c : Convoy) (m : Mate) : Bool := !keepM c.Gap m m.S m.V m.Guess_ m.WardGuess
theorem contains_Check (c : Convoy) (hl : c.Mates.length ≤ 1000000) : slices_ContainsFunc_Mate_Mate_convoy_Check_1b c.Mates c = some (c.Mates.any (clashP c)) := by
  unfold slices_ContainsFunc_Mate_Mate_convoy_Check_1b slices_IndexFunc_Mate_Mate_convoy_Check_1b
  rw [index_eq c.Mates (clashP c) (by omega) (fun i a h => by
    have := get_lt h
    unfold slices_IndexFunc_Mate_Mate_convoy_Check_1b_l1 convoy_Check_1_b
    rw [show decide ((i : Int) < (c.Mates.length : Int)) = true from decide_eq_true (by omega), geti_some h]
    simp only [cond_true, Option.bind_some, keeps_eq]
    unfold clashP
    cases keepM c.Gap a a.S a.V a.Guess_ a.WardGuess <;> rfl) (by
    unfold slices_IndexFunc_Mate_Mate_convoy_Check_1b_l1
    simp)]
  simp only [Option.bind_some, idxI_any]
/-- The error of a convoy. -/
def chkM (c : Convoy) : Int := if numM c ≠ 0 then numM c else if ordM c ≠ 0 then ordM c else if anyI staP 0 c.Mates then 10 else if c.Mates.any (clashP c) || guestBad c then 12 else 0
theorem sta_eq (i : Nat) (m : Mate) : (((((i : Int) == 0) && (m.Ahead != 0)) || (((decide ((i : Int) > 0)) && (m.Until == 0)) && (m.Ahead == 0))) || ((m.Ward == 0) && (m.Until != 0))) = staP i m := by
  unfold staP
  rw [show (((i : Int) == 0) = (i == 0)) by rw [Bool.eq_iff_iff]; simp, show decide ((i : Int) > 0) = decide (0 < i) by rw [Bool.eq_iff_iff]; simp]
  cases (i == 0) <;> cases decide (0 < i) <;> cases (m.Until == 0) <;> cases (m.Ahead == 0) <;> rfl
theorem convoy_Check_eq (c : Convoy) (hl : c.Mates.length ≤ 1000000) : convoy_Check c = some (chkM c) := by
  unfold convoy_Check chkM
  rw [convoy_numbers_eq c hl, Option.bind_some]
  by_cases h1 : numM c = 0
  · rw [if_neg (by simpa using h1), show (numM c != 0) = false by simpa using h1, cond_false, convoy_orders_eq c hl, Option.bind_some]
    by_cases h2 : ordM c = 0
    · rw [if_neg (by simpa using h2), show (ordM c != 0) = false by simpa using h2, cond_false]
      have h3 := scan (f := convoy_Check_l1 c) c.Mates staP (10 : Int) (by omega) 0 (fun i a _ h => by
        have hlt := get_lt h
        unfold convoy_Check_l1
        rw [show decide ((i : Int) < (c.Mates.length : Int)) = true from decide_eq_true (by omega), geti_some h]
        simp only [cond_true, Option.bind_some]
        rw [sta_eq]
        cases staP i a <;> rfl) (by unfold convoy_Check_l1; simp) (by omega)
      rw [show ((0 : Nat) : Int) = 0 from rfl, List.drop_zero] at h3
      rw [h3]
      cases anyI staP 0 c.Mates
      · simp only [Bool.false_eq_true, if_false, thenS, contains_Check c hl, Option.bind_some, convoy_stop_eq, cond_some]
        unfold guestBad
        cases c.Mates.any (clashP c)
        · simp only [Bool.not_false, Bool.true_and, Bool.false_or]
          cases (c.Guest_.ID != 0)
          · rfl
          · simp only [cond_true, Bool.true_and, ge_iff_le]
            cases decide (c.Guest_.End ≤ w64 (c.Guest_.S + stopM c.Guest_.V)) <;> rfl
        · rfl
      · rfl
    · rw [if_pos h2, show (ordM c != 0) = true by simpa using h2]; rfl
  · rw [if_pos h1, show (numM c != 0) = true by simpa using h1]; rfl
theorem sta_eq2 (i : Nat) (m : Mate) : (((((i : Int) == 0) && (m.Ahead != 0)) || (((decide ((i : Int) > 0)) && (m.Ahead == 0)) && (m.Until == 0))) || ((m.Ward == 0) && (m.Until != 0))) = staP i m := by
  rw [← sta_eq]
  cases ((i : Int) == 0) <;> cases decide ((i : Int) > 0) <;> cases (m.Until == 0) <;> cases (m.Ahead == 0) <;> rfl
theorem ord_drop (c : Convoy) : anyI (ordP c) 1 (c.Mates.drop 1) = anyI (ordP c) 0 c.Mates := by
  cases h : c.Mates with
  | nil => rfl
  | cons a r =>
    rw [List.drop_one, List.tail_cons]
    conv => rhs; rw [anyI]
    have : ordP c 0 a = false := rfl
    rw [this, Bool.false_or]
theorem ref09_Check_eq (c : Convoy) (hl : c.Mates.length ≤ 1000000) : ref09_Check c = some (chkM c) := by
  unfold ref09_Check chkM
  rw [ref09_numbers_eq c hl, Option.bind_some]
  by_cases h1 : numM c = 0
  · have e : ∀ a b : Int, (if numM c ≠ 0 then a else b) = b := fun a b => if_neg (by simpa using h1)
    rw [e, e]
    unfold ordM
    cases hd : anyI (dupP c) 0 c.Mates
    · simp only [Bool.false_eq_true, if_false, bne_self_eq_false, cond_false]
      have hpos : 1 ≤ c.Mates.length := by
        rcases Nat.eq_zero_or_pos c.Mates.length with h | h
        · exfalso
          unfold numM at h1
          rw [if_pos h] at h1
          split at h1 <;> cases h1
        · exact h
      have h2 := scan (f := ref09_Check_l1 c) c.Mates (ordP c) (11 : Int) (by omega) 1 (fun i a hi h => by
        have hlt := get_lt h
        obtain ⟨k, e1, e2, _⟩ := ord_at hl hi h
        unfold ref09_Check_l1
        rw [show decide ((i : Int) < (c.Mates.length : Int)) = true from decide_eq_true (by omega), geti_some h]
        simp only [cond_true, Option.bind_some]
        rw [e1, e2]
        simp only [Option.bind_some, ref09_rear_eq, ge_iff_le]
        cases decide (w64 (k.S - k.Len) ≤ a.S) <;> rfl) (by unfold ref09_Check_l1; simp) hpos
      rw [show ((1 : Nat) : Int) = 1 from rfl, ord_drop] at h2
      rw [h2]
      cases anyI (ordP c) 0 c.Mates
      · simp only [Bool.false_eq_true, if_false, thenS]
        have h3 := scan (f := ref09_Check_l2 c) c.Mates staP (10 : Int) (by omega) 0 (fun i a _ h => by
          have hlt := get_lt h
          unfold ref09_Check_l2
          rw [show decide ((i : Int) < (c.Mates.length : Int)) = true from decide_eq_true (by omega), geti_some h]
          simp only [cond_true, Option.bind_some]
          rw [sta_eq2]
          cases staP i a <;> rfl) (by unfold ref09_Check_l2; simp) (by omega)
        have h4 := scan (f := ref09_Check_l3 c) c.Mates (fun _ => clashP c) (12 : Int) (by omega) 0 (fun i a _ h => by
          have hlt := get_lt h
          unfold ref09_Check_l3
          rw [show decide ((i : Int) < (c.Mates.length : Int)) = true from decide_eq_true (by omega), geti_some h]
          simp only [cond_true, Option.bind_some, ref09_Safe_eq, cond_some]
          unfold clashP keepM
          rw [show (a.Ahead != 0) = !(a.Ahead == 0) from rfl, show (a.Until != 0) = !(a.Until == 0) from rfl]
          cases (a.Ahead == 0) <;> cases safeM a.S a.V c.Gap a.Guess_ <;> cases (a.Until == 0) <;> cases safeM a.S a.V c.Gap a.WardGuess <;> rfl) (by unfold ref09_Check_l3; simp) (by omega)
        rw [show ((0 : Nat) : Int) = 0 from rfl, List.drop_zero] at h3 h4
        rw [anyI_any] at h4
        rw [h3]
        cases anyI staP 0 c.Mates
        · simp only [Bool.false_eq_true, if_false, ne_eq, not_true_eq_false]
          rw [h4]
          cases c.Mates.any (clashP c)
          · simp only [Bool.false_eq_true, if_false, Option.bind_some, ref09_stop_eq, cond_some, Bool.false_or]
            unfold guestBad
            cases (c.Guest_.ID != 0)
            · rfl
            · simp only [cond_true, Bool.true_and, ge_iff_le]
              cases decide (c.Guest_.End ≤ w64 (c.Guest_.S + stopM c.Guest_.V)) <;> rfl
          · rfl
        · rfl
      · rfl
    · rfl
  · rw [if_pos h1, if_pos h1, show (numM c != 0) = true by simpa using h1]; rfl
end Go.Abs.Convoy

namespace Go.Abs.Convoy
open Go Go.Abs

/-! ### Numbers drawn from a ring -/
/-- The numbers of a mate of the kit. -/
def KitM (m : Mate) : Prop := (16000000 ≤ m.S ∧ m.S ≤ 16777216) ∧ (0 ≤ m.V ∧ m.V ≤ 2000) ∧ (300 ≤ m.Len ∧ m.Len ≤ 6299)
/-- A list of mates of the kit: each is safe behind the one ahead. -/
def Chn (gap : Int) (l : List Mate) : Prop := ∀ (i : Nat) m, l[i]? = some m → KitM m ∧ 16777216 - 50000 * (i : Int) ≤ m.S ∧ (0 < i → ∃ k, l[i - 1]? = some k ∧ m.S ≤ k.S - k.Len - gap ∧ safeM m.S m.V gap ⟨k.S - k.Len, k.V⟩ = true)
end Go.Abs.Convoy

namespace Go.Abs.Convoy
open Go Go.Abs

/-! ### New convoys -/
def G0 : Guest := Guest.mk 0 0 0 0 0 0 (Guess.mk 0 0) 0 0
def C0 : Convoy := Convoy.mk 0 0 [] G0
def newAt (l : List Mate) (i : Nat) (m : Mate) : Mate := Mate.mk ((i : Int) + 1) m.S m.V m.Len (i : Int) (match (if 0 < i then l[i - 1]? else none) with | some k => ⟨w64 (k.S - k.Len), k.V⟩ | none => ⟨0, 0⟩) true 0 ⟨0, 0⟩ 0
def newL (l : List Mate) : List Mate := l.mapIdx (newAt l)
theorem newL_len (l : List Mate) : (newL l).length = l.length := List.length_mapIdx
theorem newL_get {l : List Mate} {i : Nat} {m : Mate} (h : l[i]? = some m) : (newL l)[i]? = some (newAt l i m) := by
  unfold newL
  rw [List.getElem?_mapIdx, h]; rfl
theorem new_loop {f : Int × Convoy → Option (Stp (Int × Convoy) Convoy)} (gap : Int) (l : List Mate) (hf : ∀ (i : Nat) m (ms : List Mate), l[i]? = some m → ms.length = i → f ((i : Int), ⟨0, gap, ms, G0⟩) = some (.go (((i + 1 : Nat) : Int), ⟨0, gap, ms ++ [newAt l i m], G0⟩))) (he : ∀ c, f ((l.length : Int), c) = some (.out c)) :
    loop f (0, ⟨0, gap, [], G0⟩) = some ⟨0, gap, newL l, G0⟩ := by
  have key : ∀ (r : List Mate) (i : Nat), l.drop i = r → i ≤ l.length → loop f ((i : Int), ⟨0, gap, (newL l).take i, G0⟩) = some ⟨0, gap, newL l, G0⟩ := by
    intro r
    induction r with
    | nil =>
      intro i hi hil
      have := drop_nil hi
      obtain rfl : i = l.length := by omega
      rw [loop_out (he _), List.take_of_length_le (by rw [newL_len]; exact Nat.le_refl _)]
    | cons a r ih =>
      intro i hi _
      have hlt := drop_lt hi
      have h0 : l[i]? = some a := by have := congrArg (fun z => z[0]?) hi; simpa using this
      rw [loop_go (hf i a _ h0 (by rw [List.length_take, newL_len]; omega))]
      have := ih (i + 1) (drop_succ hi) (by omega)
      rw [List.take_add_one, newL_get h0] at this
      exact this
  exact key l 0 rfl (by omega)
def newM (gap : Int) (l : List Mate) : Convoy × Int := if chkM ⟨0, gap, newL l, G0⟩ ≠ 0 then (C0, chkM ⟨0, gap, newL l, G0⟩) else (⟨0, gap, newL l, G0⟩, 0)
theorem new_end {e : Int} {a : Convoy} : cond (e != 0) (some (C0, e)) (some (a, 0)) = some (if e ≠ 0 then (C0, e) else (a, 0)) := by
  by_cases h : e = 0
  · rw [h]; rfl
  · rw [if_pos h, show (e != 0) = true by simpa using h]; rfl
theorem prev_at {l : List Mate} (hl : l.length ≤ 1000000) {i : Nat} {m : Mate} (h : l[i]? = some m) (hi : 0 < i) : ∃ k, geti l (w64 ((i : Int) - 1)) = some k ∧ l[i - 1]? = some k := by
  have hlt := get_lt h
  have : i - 1 < l.length := by omega
  exact ⟨l[i - 1], by rw [w64_id (by omega), show (i : Int) - 1 = ((i - 1 : Nat) : Int) by omega, geti_nat this], List.getElem?_eq_getElem this⟩
theorem ref09_New_eq (gap : Int) (l : List Mate) (hl : l.length ≤ 1000000) : ref09_New gap l = some (newM gap l) := by
  unfold ref09_New
  rw [show (Convoy.mk 0 gap [] (Guest.mk 0 0 0 0 0 0 (Guess.mk 0 0) 0 0)) = ⟨0, gap, [], G0⟩ from rfl, new_loop gap l (fun i m ms h hm => by
    have hlt := get_lt h
    unfold ref09_New_l1
    rw [show decide ((i : Int) < (l.length : Int)) = true from decide_eq_true (by omega)]
    dsimp only
    rw [geti_some h]
    simp only [cond_true, Option.bind_some]
    rw [w64_id (n := (i : Int) + 1) (by omega)]
    by_cases hi : 0 < i
    · obtain ⟨k, e1, e2⟩ := prev_at hl h hi
      rw [show decide ((i : Int) > 0) = true from decide_eq_true (by omega), e1]
      simp only [cond_true, Option.bind_some, ref09_rear_eq]
      rw [appc_ok (by simp; omega), Option.bind_some]
      unfold newAt
      rw [if_pos hi, e2]; rfl
    · rw [show decide ((i : Int) > 0) = false from decide_eq_false (by omega), cond_false, Option.bind_some, appc_ok (by simp; omega), Option.bind_some]
      unfold newAt
      rw [if_neg hi]; rfl) (fun c => by unfold ref09_New_l1; simp)]
  rw [Option.bind_some, ref09_Check_eq _ (by rw [newL_len]; exact hl), Option.bind_some]
  exact new_end
theorem convoy_New_eq (gap : Int) (l : List Mate) (hl : l.length ≤ 1000000) : convoy_New gap l = some (newM gap l) := by
  unfold convoy_New
  rw [show (Convoy.mk 0 gap [] (Guest.mk 0 0 0 0 0 0 (Guess.mk 0 0) 0 0)) = ⟨0, gap, [], G0⟩ from rfl, new_loop gap l (fun i m ms h hm => by
    have hlt := get_lt h
    unfold convoy_New_l1
    rw [show decide ((i : Int) < (l.length : Int)) = true from decide_eq_true (by omega)]
    dsimp only
    rw [geti_some h]
    simp only [cond_true, Option.bind_some]
    rw [w64_id (n := (i : Int) + 1) (by omega)]
    by_cases hi : 0 < i
    · obtain ⟨k, e1, e2⟩ := prev_at hl h hi
      rw [show decide ((i : Int) > 0) = true from decide_eq_true (by omega), e1]
      simp only [cond_true, Option.bind_some]
      rw [appc_ok (by simp; omega), Option.bind_some]
      unfold newAt
      rw [if_pos hi, e2]; rfl
    · obtain rfl : i = 0 := by omega
      rw [show decide (((0 : Nat) : Int) > 0) = false from rfl, cond_false, Option.bind_some, appc_ok (by simp; omega), Option.bind_some]
      unfold newAt
      rfl) (fun c => by unfold convoy_New_l1; simp)]
  rw [Option.bind_some, convoy_Check_eq _ (by rw [newL_len]; exact hl), Option.bind_some]
  exact new_end

/-! ### Guests -/
def takenP (g : Guest) (m : Mate) : Bool := m.ID == g.ID || (m.Ward == g.ID && g.ID != 0)
def withG (c : Convoy) (g : Guest) : Convoy := ⟨c.Tick, c.Gap, c.Mates, Guest.mk g.ID g.S g.V g.Len g.End 0 (Guess.mk 0 0) 0 0⟩
def rampM (c : Convoy) (g : Guest) : Convoy × Int :=
  if chkM c ≠ 0 then (C0, chkM c) else if (c.Guest_.ID != 0) || c.Mates.any (takenP g) then (C0, 9) else if g.ID = 0 then (C0, 2) else if chkM (withG c g) ≠ 0 then (C0, chkM (withG c g)) else (withG c g, 0)
theorem ref09_Copy_eq (c : Convoy) (hl : c.Mates.length ≤ 1000000) : ref09_Copy c = some c := by
  unfold ref09_Copy
  rw [appc_ok (by simp; omega)]; rfl
theorem ramp_l1 (c : Convoy) (g : Guest) (hl : c.Mates.length ≤ 1000000) : ∀ (r : List Mate) (i : Nat) (b : Bool), c.Mates.drop i = r → loop (ref09_Ramp_l1 c g) (b, (i : Int)) = some (b || r.any (takenP g)) := by
  intro r
  induction r with
  | nil =>
    intro i b hi
    have := drop_nil hi
    refine loop_out ?_
    unfold ref09_Ramp_l1
    rw [show decide ((i : Int) < (c.Mates.length : Int)) = false from decide_eq_false (by omega)]; simp
  | cons a r ih =>
    intro i b hi
    have hlt := drop_lt hi
    have hs : ref09_Ramp_l1 c g (b, (i : Int)) = some (.go (b || takenP g a, ((i + 1 : Nat) : Int))) := by
      unfold ref09_Ramp_l1
      rw [show decide ((i : Int) < (c.Mates.length : Int)) = true from decide_eq_true (by omega)]
      dsimp only
      rw [geti_drop hi, w64_id (by omega)]
      simp only [cond_true, cond_some, Option.bind_some]
      unfold takenP
      cases b
      · simp only [Bool.not_false, cond_true, Bool.false_or]
        cases (a.ID == g.ID)
        · rfl
        · rfl
      · rfl
    rw [loop_go hs, ih (i + 1) _ (drop_succ hi), List.any_cons, Bool.or_assoc]
theorem ref09_Ramp_eq (c : Convoy) (g : Guest) (hl : c.Mates.length ≤ 1000000) : ref09_Ramp c g = some (rampM c g) := by
  unfold ref09_Ramp rampM
  rw [ref09_Check_eq c hl, Option.bind_some]
  by_cases h1 : chkM c = 0
  · rw [h1, if_neg (by decide), show ((0 : Int) != 0) = false from rfl, cond_false]
    have := ramp_l1 c g hl c.Mates 0 (c.Guest_.ID != 0) rfl
    rw [show ((0 : Nat) : Int) = 0 from rfl] at this
    rw [this, Option.bind_some]
    cases ((c.Guest_.ID != 0) || c.Mates.any (takenP g))
    · simp only [cond_false, Bool.false_eq_true, if_false]
      by_cases h2 : g.ID = 0
      · rw [if_pos h2, show (g.ID == 0) = true by simpa using h2]; rfl
      · rw [if_neg h2, show (g.ID == 0) = false by simpa using h2, cond_false, ref09_Copy_eq c hl, Option.bind_some]
        rw [show (Convoy.mk c.Tick c.Gap c.Mates (Guest.mk g.ID g.S g.V g.Len g.End 0 (Guess.mk 0 0) 0 0)) = withG c g from rfl, ref09_Check_eq (withG c g) hl, Option.bind_some]
        exact new_end
    · rfl
  · rw [if_pos h1, show (chkM c != 0) = true by simpa using h1]; rfl
end Go.Abs.Convoy

namespace Go.Abs.Convoy
open Go Go.Abs

theorem within_iff {n a b : Int} : within n a b = true ↔ a ≤ n ∧ n ≤ b := by simp [within]
/-- A new convoy of the kit's mates. -/
def base (gap : Int) (l : List Mate) : Convoy := ⟨0, gap, newL l, G0⟩
/-- What the kit's convoys are. -/
structure KitC (b : Bool) (c : Convoy) : Prop where
  chk : chkM c = 0
  is : ∃ gap l, (1 ≤ gap ∧ gap ≤ 3000) ∧ Chn gap l ∧ (1 ≤ l.length ∧ l.length ≤ 5) ∧ (c = base gap l ∨ b = true ∧ ∃ g : Guest, (70 ≤ g.ID ∧ g.ID ≤ 89) ∧ (0 ≤ g.V ∧ g.V ≤ 2000) ∧ (300 ≤ g.Len ∧ g.Len ≤ 6299) ∧ c = withG (base gap l) g)
theorem KitC.len {b : Bool} {c : Convoy} (h : KitC b c) : c.Mates.length ≤ 5 := by
  obtain ⟨_, _, _, _, ⟨_, n⟩, e | ⟨_, _, _, _, _, e⟩⟩ := h.is
  · rw [e]; show (newL _).length ≤ 5; rw [newL_len]; exact n
  · rw [e]; show (newL _).length ≤ 5; rw [newL_len]; exact n
end Go.Abs.Convoy

namespace Go.Abs.Convoy
open Go Go.Abs

/-! ### What a check says -/
theorem chk_num {c : Convoy} (h : chkM c = 0) : numM c = 0 := by
  unfold chkM at h
  split at h
  · rename_i q; exact absurd h q
  · rename_i q; simpa using q
theorem num_parts {c : Convoy} (h : numM c = 0) : (within c.Tick 0 1099511627776 = true ∧ within c.Gap 1 20000 = true) ∧ c.Mates.length ≠ 0 ∧ ¬ c.Mates.length + (if noGuest c.Guest_ then 0 else 1) > 8 ∧ (c.Mates.any fun m => !mateM m) = false ∧ (noGuest c.Guest_ || guestM c.Guest_) = true := by
  unfold numM at h
  by_cases h1 : (!within c.Tick 0 1099511627776 || !within c.Gap 1 20000) = true
  · rw [if_pos h1] at h; exact absurd h (by decide)
  rw [if_neg h1] at h
  by_cases h2 : c.Mates.length = 0
  · rw [if_pos h2] at h; exact absurd h (by decide)
  rw [if_neg h2] at h
  by_cases h3 : c.Mates.length + (if noGuest c.Guest_ then 0 else 1) > 8
  · rw [if_pos h3] at h; exact absurd h (by decide)
  rw [if_neg h3] at h
  by_cases h4 : ((c.Mates.any fun m => !mateM m) || !(noGuest c.Guest_ || guestM c.Guest_)) = true
  · rw [if_pos h4] at h; exact absurd h (by decide)
  rw [Bool.not_eq_true, Bool.or_eq_false_iff] at h1 h4
  exact ⟨by simpa using h1, h2, h3, h4.1, by have := h4.2; rwa [Bool.not_eq_false'] at this⟩
theorem num_mate {c : Convoy} (h : numM c = 0) {m : Mate} (hm : m ∈ c.Mates) : mateM m = true := by
  have p := (num_parts h).2.2.2.1
  rw [List.any_eq_false] at p
  simpa using p m hm
/-- The numbers of a mate. -/
structure MateB (m : Mate) : Prop where
  id : 1 ≤ m.ID ∧ m.ID ≤ 99
  s : 0 ≤ m.S ∧ m.S ≤ 1099511627776
  v : 0 ≤ m.V ∧ m.V ≤ 2000
  len : 300 ≤ m.Len ∧ m.Len ≤ 20000
  ahead : 0 ≤ m.Ahead ∧ m.Ahead ≤ 99
  ward : 0 ≤ m.Ward ∧ m.Ward ≤ 99
  untl : 0 ≤ m.Until ∧ m.Until ≤ 2199023255552
  guess : guessM m.Guess_ = true
  wguess : guessM m.WardGuess = true
theorem mateB_iff {m : Mate} : mateM m = true ↔ MateB m := by
  unfold mateM bodyM
  simp only [Bool.and_eq_true, within_iff]
  constructor
  · rintro ⟨⟨a, b, c, d⟩, e, f, g, h, i⟩; exact ⟨a, b, c, d, e, f, g, h, i⟩
  · rintro ⟨a, b, c, d, e, f, g, h, i⟩; exact ⟨⟨a, b, c, d⟩, e, f, g, h, i⟩
end Go.Abs.Convoy

namespace Go.Abs.Convoy
open Go Go.Abs

/-! ### What is believed in a convoy -/
end Go.Abs.Convoy

namespace Go.Abs.Convoy
open Go Go.Abs

/-! ### Gaps -/
theorem scan_none {α τ : Type} {f : Int → Option (Stp Int (Sum Unit τ))} (l : List α) (hl : l.length ≤ 1000000000) (hf : ∀ (i : Nat) a, l[i]? = some a → f (i : Int) = some (.go (w64 ((i : Int) + 1)))) (he : f (l.length : Int) = some (.out (.inl ()))) : loop f 0 = some (.inl ()) := by
  have key : ∀ (r : List α) (i : Nat), l.drop i = r → i ≤ l.length → loop f (i : Int) = some (.inl ()) := by
    intro r
    induction r with
    | nil =>
      intro i hi hil
      have := drop_nil hi
      obtain rfl : i = l.length := by omega
      exact loop_out he
    | cons a r ih =>
      intro i hi _
      have hlt := drop_lt hi
      have h0 : l[i]? = some a := by have := congrArg (fun z => z[0]?) hi; simpa using this
      have hs := hf i a h0
      rw [w64_id (by omega)] at hs
      rw [loop_go hs]
      exact ih (i + 1) (drop_succ hi) (by omega)
  exact key l 0 rfl (by omega)
theorem same_refl (c : Convoy) (hl : c.Mates.length ≤ 1000000) : ref09_Same c c = some true := by
  unfold ref09_Same
  rw [scan_none c.Mates (by omega) (fun i a h => by
    have := get_lt h
    unfold ref09_Same_l1
    rw [show decide ((i : Int) < (c.Mates.length : Int)) = true from decide_eq_true (by omega), geti_some h]
    simp) (by unfold ref09_Same_l1; simp)]
  simp [thenS]

/-! ### Notes -/
end Go.Abs.Convoy

namespace Go.Abs.Convoy
open Go Go.Abs

/-! ### Equal convoys -/
def eqM (v1 v2 : Mate) : Bool := (v1.ID == v2.ID && (v1.S == v2.S && (v1.V == v2.V && (v1.Len == v2.Len && (v1.Ahead == v2.Ahead && (v1.Guess_.R == v2.Guess_.R && (v1.Guess_.V == v2.Guess_.V && (v1.Trust == v2.Trust && (v1.Ward == v2.Ward && (v1.WardGuess.R == v2.WardGuess.R && (v1.WardGuess.V == v2.WardGuess.V && (v1.Until == v2.Until && true))))))))))))
def eqG (v1 v2 : Guest) : Bool := (v1.ID == v2.ID && (v1.S == v2.S && (v1.V == v2.V && (v1.Len == v2.Len && (v1.End == v2.End && (v1.Ahead == v2.Ahead && (v1.Guess_.R == v2.Guess_.R && (v1.Guess_.V == v2.Guess_.V && (v1.From == v2.From && (v1.Until == v2.Until && true))))))))))
def difP (ys : List Mate) (i : Nat) (a : Mate) : Bool := match ys[i]? with | some y => !eqM a y | none => true
def eqL (xs ys : List Mate) : Bool := (xs.length == ys.length) && !anyI (difP ys) 0 xs
def eqC (a b : Convoy) : Bool := ((a.Tick == b.Tick) && (a.Gap == b.Gap) && eqG a.Guest_ b.Guest_) && eqL a.Mates b.Mates
theorem equal_loop (xs ys : List Mate) (hx : xs.length ≤ 1000000) (hl : xs.length = ys.length) : loop (slices_Equal_Mate_Mate_l1 xs ys) 0 = some (if anyI (difP ys) 0 xs then .inr false else .inl ()) := by
  have := scan (f := slices_Equal_Mate_Mate_l1 xs ys) xs (difP ys) false (by omega) 0 (fun i a _ h => by
    have hlt := get_lt h
    obtain ⟨y, hy⟩ : ∃ y, ys[i]? = some y := ⟨ys[i], List.getElem?_eq_getElem (by omega)⟩
    unfold slices_Equal_Mate_Mate_l1 difP
    rw [show decide ((i : Int) < (xs.length : Int)) = true from decide_eq_true (by omega), geti_some h, geti_some hy, hy]
    simp only [cond_true, Option.bind_some, cond_some]
    have key : ∀ b : Bool, some (cond (!b) (Stp.out (σ := Int) (Sum.inr (α := Unit) false)) (.go (w64 ((i : Int) + 1)))) = some (if (!b) = true then .out (.inr false) else .go (w64 ((i : Int) + 1))) := by intro b; cases b <;> rfl
    exact key (eqM a y)) (by unfold slices_Equal_Mate_Mate_l1; simp) (by omega)
  rw [show ((0 : Nat) : Int) = 0 from rfl, List.drop_zero] at this
  exact this
theorem slices_Equal_eq (xs ys : List Mate) (hx : xs.length ≤ 1000000) : slices_Equal_Mate_Mate xs ys = some (eqL xs ys) := by
  unfold slices_Equal_Mate_Mate eqL
  by_cases h : xs.length = ys.length
  · rw [show ((xs.length : Int) != (ys.length : Int)) = false by simp [h], show (xs.length == ys.length) = true by simp [h], cond_false, equal_loop xs ys hx h]
    cases anyI (difP ys) 0 xs <;> rfl
  · rw [show ((xs.length : Int) != (ys.length : Int)) = true by simp; omega, show (xs.length == ys.length) = false by simpa using h]; rfl
theorem convoy_Same_eq (a b : Convoy) (ha : a.Mates.length ≤ 1000000) : convoy_Same a b = some (eqC a b) := by
  change ((cond ((a.Tick == b.Tick) && (a.Gap == b.Gap) && eqG a.Guest_ b.Guest_) (slices_Equal_Mate_Mate a.Mates b.Mates) (some default)).bind fun v1 => some (((a.Tick == b.Tick) && (a.Gap == b.Gap) && eqG a.Guest_ b.Guest_) && v1)) = _
  rw [slices_Equal_eq _ _ ha]
  unfold eqC
  cases ((a.Tick == b.Tick) && (a.Gap == b.Gap) && eqG a.Guest_ b.Guest_) <;> rfl
theorem ref09_Same_eq (a b : Convoy) (ha : a.Mates.length ≤ 1000000) : ref09_Same a b = some (eqC a b) := by
  change cond ((((a.Tick != b.Tick) || (a.Gap != b.Gap)) || !eqG a.Guest_ b.Guest_) || ((a.Mates.length : Int) != (b.Mates.length : Int))) (some false) (thenS (loop (slices_Equal_Mate_Mate_l1 a.Mates b.Mates) 0) (fun _ => some true) (fun r => some r)) = _
  unfold eqC eqL
  rw [show (a.Tick != b.Tick) = !(a.Tick == b.Tick) from rfl, show (a.Gap != b.Gap) = !(a.Gap == b.Gap) from rfl]
  by_cases h : a.Mates.length = b.Mates.length
  · rw [show ((a.Mates.length : Int) != (b.Mates.length : Int)) = false by simp [h], show (a.Mates.length == b.Mates.length) = true by simp [h], equal_loop _ _ ha h]
    cases (a.Tick == b.Tick) <;> cases (a.Gap == b.Gap) <;> cases eqG a.Guest_ b.Guest_ <;> cases anyI (difP b.Mates) 0 a.Mates <;> rfl
  · rw [show ((a.Mates.length : Int) != (b.Mates.length : Int)) = true by simp; omega, show (a.Mates.length == b.Mates.length) = false by simpa using h]
    simp
theorem eqC_refl (c : Convoy) (hl : c.Mates.length ≤ 1000000) : eqC c c = true := by
  have := same_refl c hl
  rw [ref09_Same_eq c c hl] at this
  exact Option.some.inj this

/-! ### Copies, guests -/
theorem clone_eq (l : List Mate) (hl : l.length ≤ 1000000) : slices_Clone_Mate_Mate l = some l := by
  unfold slices_Clone_Mate_Mate
  rw [appc_ok (by simp; omega)]; rfl
theorem Copy_mk_eq (c : Convoy) (hl : c.Mates.length ≤ 1000000) : convoy_Copy_mk c = some c := by
  unfold convoy_Copy_mk
  rw [clone_eq _ hl]; rfl
theorem knows_eq (l : List Mate) (g : Guest) (hl : l.length ≤ 1000000) : slices_ContainsFunc_Mate_Mate_convoy_Ramp_1b l g = some (l.any fun m => (m.ID == g.ID) || (m.Ward == g.ID)) := by
  unfold slices_ContainsFunc_Mate_Mate_convoy_Ramp_1b slices_IndexFunc_Mate_Mate_convoy_Ramp_1b
  rw [index_eq l (fun m => (m.ID == g.ID) || (m.Ward == g.ID)) (by omega) (fun i a h => by
    have := get_lt h
    unfold slices_IndexFunc_Mate_Mate_convoy_Ramp_1b_l1 convoy_Ramp_1_b
    rw [show decide ((i : Int) < (l.length : Int)) = true from decide_eq_true (by omega), geti_some h]
    simp only [cond_true, Option.bind_some]
    cases ((a.ID == g.ID) || (a.Ward == g.ID)) <;> rfl) (by
    unfold slices_IndexFunc_Mate_Mate_convoy_Ramp_1b_l1
    simp)]
  simp only [Option.bind_some, idxI_any]
theorem Ramp_mk_eq (c : Convoy) (g : Guest) (hl : c.Mates.length ≤ 1000000) : convoy_Ramp_mk c g = some (rampM c g) := by
  unfold convoy_Ramp_mk rampM
  rw [convoy_Check_eq c hl, Option.bind_some]
  by_cases h1 : chkM c = 0
  · rw [h1, if_neg (by decide), show ((0 : Int) != 0) = false from rfl, cond_false, knows_eq _ _ hl, cond_some, Option.bind_some]
    have e : ((c.Guest_.ID != 0) || ((g.ID != 0) && cond ((!(c.Guest_.ID != 0)) && (g.ID != 0)) (c.Mates.any fun m => (m.ID == g.ID) || (m.Ward == g.ID)) default)) = ((c.Guest_.ID != 0) || c.Mates.any (takenP g)) := by
      cases (c.Guest_.ID != 0)
      · by_cases z : g.ID = 0
        · rw [show (g.ID != 0) = false by simpa using z, Bool.false_and]
          rw [show c.Mates.any (takenP g) = false from ?_]
          rw [List.any_eq_false]
          intro m hm
          have := (mateB_iff.1 (num_mate (chk_num h1) hm)).id
          unfold takenP
          rw [z]
          simp; omega
        · rw [show (g.ID != 0) = true by simpa using z]
          simp only [Bool.not_false, Bool.true_and, cond_true, Bool.false_or]
          congr 1
          funext m
          unfold takenP
          rw [show (g.ID != 0) = true by simpa using z, Bool.and_true]
      · rfl
    rw [e]
    cases ((c.Guest_.ID != 0) || c.Mates.any (takenP g))
    · simp only [cond_false, Bool.false_eq_true, if_false]
      by_cases h2 : g.ID = 0
      · rw [if_pos h2, show (g.ID == 0) = true by simpa using h2]; rfl
      · rw [if_neg h2, show (g.ID == 0) = false by simpa using h2, cond_false, Copy_mk_eq c hl, Option.bind_some]
        rw [show (Convoy.mk c.Tick c.Gap c.Mates (Guest.mk g.ID g.S g.V g.Len g.End 0 (Guess.mk 0 0) 0 0)) = withG c g from rfl, convoy_Check_eq (withG c g) hl, Option.bind_some]
        exact new_end
    · rfl
  · rw [if_pos h1, show (chkM c != 0) = true by simpa using h1]; rfl
theorem rampM_small (c : Convoy) (g : Guest) : (rampM c g).1.Mates.length ≤ c.Mates.length := by
  unfold rampM
  split
  · exact Nat.zero_le _
  · split
    · exact Nat.zero_le _
    · split
      · exact Nat.zero_le _
      · split
        · exact Nat.zero_le _
        · exact Nat.le_refl _
theorem newM_small (gap : Int) (l : List Mate) : (newM gap l).1.Mates.length ≤ l.length := by
  unfold newM
  split
  · exact Nat.zero_le _
  · show (newL l).length ≤ _; rw [newL_len]; exact Nat.le_refl _

/-! ### The law -/
theorem shift_l1 : ∀ (n : Nat) (i : Int) (c : Convoy), 0 ≤ i → i + n = (c.Mates.length : Int) → c.Mates.length ≤ 1000000 → ∃ u, loop law09_ConvoyMade_l1 (i, c) = some u := by
  intro n
  induction n with
  | zero =>
    intro i c h0 h hl
    refine ⟨(), loop_out ?_⟩
    unfold law09_ConvoyMade_l1
    rw [show decide (i < (c.Mates.length : Int)) = false from decide_eq_false (by omega)]; rfl
  | succ n ih =>
    intro i c h0 h hl
    obtain ⟨j, rfl⟩ : ∃ j : Nat, i = (j : Int) := ⟨_, (Int.toNat_of_nonneg h0).symm⟩
    have hj : j < c.Mates.length := by omega
    have hs : ∃ d : Convoy, law09_ConvoyMade_l1 ((j : Int), c) = some (.go ((j : Int) + 1, d)) ∧ d.Mates.length = c.Mates.length := by
      unfold law09_ConvoyMade_l1
      rw [show decide ((j : Int) < (c.Mates.length : Int)) = true from decide_eq_true (by omega)]
      dsimp only
      rw [geti_nat hj, cond_true, Option.bind_some, Option.bind_some, w64_id (n := (j : Int) + 1) (by omega)]
      exact ⟨_, rfl, by simp [seti]⟩
    obtain ⟨d, hd, e⟩ := hs
    rw [loop_go hd]
    exact ih _ d (by omega) (by rw [e]; omega) (by rw [e]; exact hl)
theorem l2_l1 : law09_ConvoyMade_l2 = law09_ConvoyMade_l1 := rfl
theorem law09_ConvoyMade_plain (gap : Int) (l : List Mate) (c : Convoy) (g : Guest) : law09_ConvoyMade gap l c g = some true := by
  unfold law09_ConvoyMade
  cases hb : (decide ((l.length : Int) > 12)) || (decide ((c.Mates.length : Int) > 12))
  · rw [Bool.or_eq_false_iff] at hb
    have h1 := of_decide_eq_false hb.1
    have h2 := of_decide_eq_false hb.2
    have s1 := rampM_small c g
    have s2 := newM_small gap l
    obtain ⟨u1, e1⟩ := shift_l1 c.Mates.length 0 c (by decide) (by omega) (by omega)
    obtain ⟨u2, e2⟩ := shift_l1 (rampM c g).1.Mates.length 0 (rampM c g).1 (by decide) (by omega) (by omega)
    rw [cond_false, convoy_New_eq _ _ (by omega), ref09_New_eq _ _ (by omega)]
    simp only [Option.bind_some, bne_self_eq_false, Bool.not_false, cond_true, Bool.false_or]
    rw [same_refl _ (by omega), ref09_Copy_eq _ (by omega), Ramp_mk_eq _ _ (by omega), ref09_Ramp_eq _ _ (by omega)]
    simp only [Option.bind_some, bne_self_eq_false, Bool.not_false, cond_true, Bool.false_or, Bool.not_true, cond_false]
    rw [same_refl _ (by omega), same_refl c (by omega), convoy_Same_eq _ _ (by omega), ref09_Same_eq _ _ (by omega), convoy_Same_eq _ _ (by omega), eqC_refl c (by omega), Copy_mk_eq c (by omega)]
    simp only [Option.bind_some, Bool.not_false, cond_true, Bool.false_or, Bool.not_true, cond_false, beq_self_eq_true, same_refl c (by omega : c.Mates.length ≤ 1000000), e1, l2_l1, e2, awake_eq, Bool.and_self]
  · rw [cond_true, awake_eq]; rfl
end Go.Abs.Convoy
