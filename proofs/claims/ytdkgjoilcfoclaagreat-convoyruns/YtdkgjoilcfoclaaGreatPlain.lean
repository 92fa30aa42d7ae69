/-
  Plain facts on the functions: what they compute, and that the law holds of it.
-/
import Derived.Test.YtdkgjoilcfoclaaGreatFns4

set_option maxRecDepth 100000
set_option linter.unusedVariables false
namespace Go.Abs.Convoyz
open Go Go.Abs
def convoy_withinc (p1 : Int) (p2 : Int) (p3 : Int) : Option Bool :=
  some ((decide (p2 ≤ p1)) && (decide (p1 ≤ p3)))
theorem convoy_within_le (p1 : Int) (p2 : Int) (p3 : Int) : Le (convoy_withinc p1 p2 p3) (convoy_within p1 p2 p3) := by
  unfold convoy_withinc convoy_within
  repeat' first | with_reducible exact Le.refl _ | with_reducible refine Le.bind ?_ fun _ => ?_ | with_reducible refine Le.cond ?_ ?_ | with_reducible refine Le.ite ?_ ?_ | with_reducible refine Le.thenS ?_ (fun _ => ?_) (fun _ => ?_) | with_reducible refine Le.loop (fun _ => ?_) _ | with_reducible refine Le.loopL (fun _ _ => ?_) _ _ | exact Le.refl _
def convoy_fairBodyc (p1 : Int) (p2 : Int) (p3 : Int) (p4 : Int) : Option Bool :=
  ((cond ((decide (p1 ≥ 1)) && (decide (p1 ≤ 99))) (convoy_withinc p2 0 1099511627776) (some default))).bind fun v1 => ((cond (((decide (p1 ≥ 1)) && (decide (p1 ≤ 99))) && v1) (convoy_withinc p3 0 2000) (some default))).bind fun v2 => ((cond ((((decide (p1 ≥ 1)) && (decide (p1 ≤ 99))) && v1) && v2) (convoy_withinc p4 300 20000) (some default))).bind fun v3 => some (((((decide (p1 ≥ 1)) && (decide (p1 ≤ 99))) && v1) && v2) && v3)
theorem convoy_fairBody_le (p1 : Int) (p2 : Int) (p3 : Int) (p4 : Int) : Le (convoy_fairBodyc p1 p2 p3 p4) (convoy_fairBody p1 p2 p3 p4) := by
  unfold convoy_fairBodyc convoy_fairBody
  repeat' first | with_reducible exact Le.refl _ | with_reducible exact convoy_within_le _ _ _ | with_reducible refine Le.bind ?_ fun _ => ?_ | with_reducible refine Le.cond ?_ ?_ | with_reducible refine Le.ite ?_ ?_ | with_reducible refine Le.thenS ?_ (fun _ => ?_) (fun _ => ?_) | with_reducible refine Le.loop (fun _ => ?_) _ | with_reducible refine Le.loopL (fun _ _ => ?_) _ _ | exact Le.refl _
def convoy_fairIDc (p1 : Int) : Option Bool :=
  some ((decide (p1 ≥ 0)) && (decide (p1 ≤ 99)))
theorem convoy_fairID_le (p1 : Int) : Le (convoy_fairIDc p1) (convoy_fairID p1) := by
  unfold convoy_fairIDc convoy_fairID
  repeat' first | with_reducible exact Le.refl _ | with_reducible refine Le.bind ?_ fun _ => ?_ | with_reducible refine Le.cond ?_ ?_ | with_reducible refine Le.ite ?_ ?_ | with_reducible refine Le.thenS ?_ (fun _ => ?_) (fun _ => ?_) | with_reducible refine Le.loop (fun _ => ?_) _ | with_reducible refine Le.loopL (fun _ _ => ?_) _ _ | exact Le.refl _
def convoy_fairGuessc (p1 : Guess) : Option Bool :=
  (convoy_withinc p1.R (-20000) 2199023255552).bind fun v1 => ((cond v1 (convoy_withinc p1.V 0 2000) (some default))).bind fun v2 => some (v1 && v2)
theorem convoy_fairGuess_le (p1 : Guess) : Le (convoy_fairGuessc p1) (convoy_fairGuess p1) := by
  unfold convoy_fairGuessc convoy_fairGuess
  repeat' first | with_reducible exact Le.refl _ | with_reducible exact convoy_within_le _ _ _ | with_reducible refine Le.bind ?_ fun _ => ?_ | with_reducible refine Le.cond ?_ ?_ | with_reducible refine Le.ite ?_ ?_ | with_reducible refine Le.thenS ?_ (fun _ => ?_) (fun _ => ?_) | with_reducible refine Le.loop (fun _ => ?_) _ | with_reducible refine Le.loopL (fun _ _ => ?_) _ _ | exact Le.refl _
def convoy_fairMatec (p1 : Mate) : Option Bool :=
  (convoy_fairBodyc p1.ID p1.S p1.V p1.Len).bind fun v1 => ((cond v1 (convoy_fairIDc p1.Ahead) (some default))).bind fun v2 => ((cond (v1 && v2) (convoy_fairIDc p1.Ward) (some default))).bind fun v3 => ((cond ((v1 && v2) && v3) (convoy_withinc p1.Until 0 2199023255552) (some default))).bind fun v4 => ((cond (((v1 && v2) && v3) && v4) (convoy_fairGuessc p1.Guess_) (some default))).bind fun v5 => ((cond ((((v1 && v2) && v3) && v4) && v5) (convoy_fairGuessc p1.WardGuess) (some default))).bind fun v6 => some (((((v1 && v2) && v3) && v4) && v5) && v6)
theorem convoy_fairMate_le (p1 : Mate) : Le (convoy_fairMatec p1) (convoy_fairMate p1) := by
  unfold convoy_fairMatec convoy_fairMate
  repeat' first | with_reducible exact Le.refl _ | with_reducible exact convoy_fairBody_le _ _ _ _ | with_reducible exact convoy_fairID_le _ | with_reducible exact convoy_within_le _ _ _ | with_reducible exact convoy_fairGuess_le _ | with_reducible refine Le.bind ?_ fun _ => ?_ | with_reducible refine Le.cond ?_ ?_ | with_reducible refine Le.ite ?_ ?_ | with_reducible refine Le.thenS ?_ (fun _ => ?_) (fun _ => ?_) | with_reducible refine Le.loop (fun _ => ?_) _ | with_reducible refine Le.loopL (fun _ _ => ?_) _ _ | exact Le.refl _
def convoy_numbers_1c (p1 : Mate) : Option Bool :=
  (convoy_fairMatec p1).bind fun v1 => some (!v1)
theorem convoy_numbers_1_le (p1 : Mate) : Le (convoy_numbers_1c p1) (convoy_numbers_1 p1) := by
  unfold convoy_numbers_1c convoy_numbers_1
  repeat' first | with_reducible exact Le.refl _ | with_reducible exact convoy_fairMate_le _ | with_reducible refine Le.bind ?_ fun _ => ?_ | with_reducible refine Le.cond ?_ ?_ | with_reducible refine Le.ite ?_ ?_ | with_reducible refine Le.thenS ?_ (fun _ => ?_) (fun _ => ?_) | with_reducible refine Le.loop (fun _ => ?_) _ | with_reducible refine Le.loopL (fun _ _ => ?_) _ _ | exact Le.refl _
def slices_IndexFunc_Mate_Mate_convoy_numbers_1_l1c (p1 : (List Mate)) (x1 : Int) : Option (Stp Int (Sum Unit Int)) :=
  cond (decide (x1 < (p1.length : Int))) ((geti p1 x1).bind fun v1 => (convoy_numbers_1c v1).bind fun v2 => cond v2 (some (.out (.inr x1))) (some (.go (w64 (x1 + 1))))) (some (.out (.inl ())))
theorem slices_IndexFunc_Mate_Mate_convoy_numbers_1_l1_le (p1 : (List Mate)) (x1 : Int) : Le (slices_IndexFunc_Mate_Mate_convoy_numbers_1_l1c p1 x1) (slices_IndexFunc_Mate_Mate_convoy_numbers_1_l1 p1 x1) := by
  unfold slices_IndexFunc_Mate_Mate_convoy_numbers_1_l1c slices_IndexFunc_Mate_Mate_convoy_numbers_1_l1
  repeat' first | with_reducible exact Le.refl _ | with_reducible exact convoy_numbers_1_le _ | with_reducible refine Le.bind ?_ fun _ => ?_ | with_reducible refine Le.cond ?_ ?_ | with_reducible refine Le.ite ?_ ?_ | with_reducible refine Le.thenS ?_ (fun _ => ?_) (fun _ => ?_) | with_reducible refine Le.loop (fun _ => ?_) _ | with_reducible refine Le.loopL (fun _ _ => ?_) _ _ | exact Le.refl _
def slices_IndexFunc_Mate_Mate_convoy_numbers_1c (p1 : (List Mate)) : Option Int :=
  thenS (loopF (slices_IndexFunc_Mate_Mate_convoy_numbers_1_l1c p1) 0) (fun _ => some (-1)) (fun r => some r)
theorem slices_IndexFunc_Mate_Mate_convoy_numbers_1_le (p1 : (List Mate)) : Le (slices_IndexFunc_Mate_Mate_convoy_numbers_1c p1) (slices_IndexFunc_Mate_Mate_convoy_numbers_1 p1) := by
  unfold slices_IndexFunc_Mate_Mate_convoy_numbers_1c slices_IndexFunc_Mate_Mate_convoy_numbers_1
  repeat' first | with_reducible exact Le.refl _ | with_reducible exact slices_IndexFunc_Mate_Mate_convoy_numbers_1_l1_le _ _ | with_reducible refine Le.bind ?_ fun _ => ?_ | with_reducible refine Le.cond ?_ ?_ | with_reducible refine Le.ite ?_ ?_ | with_reducible refine Le.thenS ?_ (fun _ => ?_) (fun _ => ?_) | with_reducible refine Le.loop (fun _ => ?_) _ | with_reducible refine Le.loopL (fun _ _ => ?_) _ _ | exact Le.refl _
def slices_ContainsFunc_Mate_Mate_convoy_numbers_1c (p1 : (List Mate)) : Option Bool :=
  (slices_IndexFunc_Mate_Mate_convoy_numbers_1c p1).bind fun v1 => some (decide (v1 ≥ 0))
theorem slices_ContainsFunc_Mate_Mate_convoy_numbers_1_le (p1 : (List Mate)) : Le (slices_ContainsFunc_Mate_Mate_convoy_numbers_1c p1) (slices_ContainsFunc_Mate_Mate_convoy_numbers_1 p1) := by
  unfold slices_ContainsFunc_Mate_Mate_convoy_numbers_1c slices_ContainsFunc_Mate_Mate_convoy_numbers_1
  repeat' first | with_reducible exact Le.refl _ | with_reducible exact slices_IndexFunc_Mate_Mate_convoy_numbers_1_le _ | with_reducible refine Le.bind ?_ fun _ => ?_ | with_reducible refine Le.cond ?_ ?_ | with_reducible refine Le.ite ?_ ?_ | with_reducible refine Le.thenS ?_ (fun _ => ?_) (fun _ => ?_) | with_reducible refine Le.loop (fun _ => ?_) _ | with_reducible refine Le.loopL (fun _ _ => ?_) _ _ | exact Le.refl _
def convoy_fairGuestc (p1 : Guest) : Option Bool :=
  cond (p1.ID == 0) (some (p1.ID == 0 && (p1.S == 0 && (p1.V == 0 && (p1.Len == 0 && (p1.End == 0 && (p1.Ahead == 0 && (p1.Guess_.R == 0 && (p1.Guess_.V == 0 && (p1.From == 0 && (p1.Until == 0 && true))))))))))) ((convoy_fairBodyc p1.ID p1.S p1.V p1.Len).bind fun v1 => ((cond v1 (convoy_fairIDc p1.Ahead) (some default))).bind fun v2 => ((cond (v1 && v2) (convoy_fairIDc p1.From) (some default))).bind fun v3 => ((cond ((v1 && v2) && v3) (convoy_withinc p1.Until 0 2199023255552) (some default))).bind fun v4 => ((cond (((v1 && v2) && v3) && v4) (convoy_withinc p1.End 0 1099511627776) (some default))).bind fun v5 => ((cond ((((v1 && v2) && v3) && v4) && v5) (convoy_fairGuessc p1.Guess_) (some default))).bind fun v6 => some (((((v1 && v2) && v3) && v4) && v5) && v6))
theorem convoy_fairGuest_le (p1 : Guest) : Le (convoy_fairGuestc p1) (convoy_fairGuest p1) := by
  unfold convoy_fairGuestc convoy_fairGuest
  repeat' first | with_reducible exact Le.refl _ | with_reducible exact convoy_fairBody_le _ _ _ _ | with_reducible exact convoy_fairID_le _ | with_reducible exact convoy_within_le _ _ _ | with_reducible exact convoy_fairGuess_le _ | with_reducible refine Le.bind ?_ fun _ => ?_ | with_reducible refine Le.cond ?_ ?_ | with_reducible refine Le.ite ?_ ?_ | with_reducible refine Le.thenS ?_ (fun _ => ?_) (fun _ => ?_) | with_reducible refine Le.loop (fun _ => ?_) _ | with_reducible refine Le.loopL (fun _ _ => ?_) _ _ | exact Le.refl _
def convoy_numbersc (p1 : Convoy) : Option Int :=
  (cond (!(p1.Guest_.ID == 0 && (p1.Guest_.S == 0 && (p1.Guest_.V == 0 && (p1.Guest_.Len == 0 && (p1.Guest_.End == 0 && (p1.Guest_.Ahead == 0 && (p1.Guest_.Guess_.R == 0 && (p1.Guest_.Guess_.V == 0 && (p1.Guest_.From == 0 && (p1.Guest_.Until == 0 && true))))))))))) (some (w64 ((p1.Mates.length : Int) + 1))) (some (p1.Mates.length : Int))).bind fun y1 => (convoy_withinc p1.Tick 0 1099511627776).bind fun v1 => ((cond (!(!v1)) (convoy_withinc p1.Gap 1 20000) (some default))).bind fun v2 => cond ((!v1) || (!v2)) (some 2) (cond ((p1.Mates.length : Int) == 0) (some 6) (cond (decide (y1 > 8)) (some 8) ((slices_ContainsFunc_Mate_Mate_convoy_numbers_1c p1.Mates).bind fun v3 => ((cond (!v3) (convoy_fairGuestc p1.Guest_) (some default))).bind fun v4 => cond (v3 || (!v4)) (some 2) (some 0))))
theorem convoy_numbers_le (p1 : Convoy) : Le (convoy_numbersc p1) (convoy_numbers p1) := by
  unfold convoy_numbersc convoy_numbers
  repeat' first | with_reducible exact Le.refl _ | with_reducible exact convoy_within_le _ _ _ | with_reducible exact slices_ContainsFunc_Mate_Mate_convoy_numbers_1_le _ | with_reducible exact convoy_fairGuest_le _ | with_reducible refine Le.bind ?_ fun _ => ?_ | with_reducible refine Le.cond ?_ ?_ | with_reducible refine Le.ite ?_ ?_ | with_reducible refine Le.thenS ?_ (fun _ => ?_) (fun _ => ?_) | with_reducible refine Le.loop (fun _ => ?_) _ | with_reducible refine Le.loopL (fun _ _ => ?_) _ _ | exact Le.refl _
def convoy_rearc (p1 : Mate) : Option Int :=
  some (w64 (p1.S - p1.Len))
theorem convoy_rear_le (p1 : Mate) : Le (convoy_rearc p1) (convoy_rear p1) := by
  unfold convoy_rearc convoy_rear
  repeat' first | with_reducible exact Le.refl _ | with_reducible refine Le.bind ?_ fun _ => ?_ | with_reducible refine Le.cond ?_ ?_ | with_reducible refine Le.ite ?_ ?_ | with_reducible refine Le.thenS ?_ (fun _ => ?_) (fun _ => ?_) | with_reducible refine Le.loop (fun _ => ?_) _ | with_reducible refine Le.loopL (fun _ _ => ?_) _ _ | exact Le.refl _
def convoy_orders_l2c (p1 : Convoy) (x2 : Int) : Option (Stp Int (Sum Unit Int)) :=
  cond (decide (x2 < (p1.Mates.length : Int))) ((geti p1.Mates x2).bind fun v2 => ((cond (decide (x2 > 0)) (geti p1.Mates (w64 (x2 - 1))) (some default))).bind fun v3 => ((cond (decide (x2 > 0)) (convoy_rearc v3) (some default))).bind fun v4 => cond ((decide (x2 > 0)) && (decide (v2.S ≥ v4))) (some (.out (.inr 11))) (some (.go (w64 (x2 + 1))))) (some (.out (.inl ())))
theorem convoy_orders_l2_le (p1 : Convoy) (x2 : Int) : Le (convoy_orders_l2c p1 x2) (convoy_orders_l2 p1 x2) := by
  unfold convoy_orders_l2c convoy_orders_l2
  repeat' first | with_reducible exact Le.refl _ | with_reducible exact convoy_rear_le _ | with_reducible refine Le.bind ?_ fun _ => ?_ | with_reducible refine Le.cond ?_ ?_ | with_reducible refine Le.ite ?_ ?_ | with_reducible refine Le.thenS ?_ (fun _ => ?_) (fun _ => ?_) | with_reducible refine Le.loop (fun _ => ?_) _ | with_reducible refine Le.loopL (fun _ _ => ?_) _ _ | exact Le.refl _
def convoy_orders_l1c (p1 : Convoy) (x1 : (Int × (List Int))) : Option (Stp (Int × (List Int)) (Sum Unit Int)) :=
  cond (decide (x1.1 < (p1.Mates.length : Int))) ((geti p1.Mates x1.1).bind fun v1 => cond (x1.2.contains v1.ID) (some (.out (.inr 9))) (some (.go ((w64 (x1.1 + 1)), (insm x1.2 v1.ID))))) (some (.out (.inl ())))
theorem convoy_orders_l1_le (p1 : Convoy) (x1 : (Int × (List Int))) : Le (convoy_orders_l1c p1 x1) (convoy_orders_l1 p1 x1) := by
  unfold convoy_orders_l1c convoy_orders_l1
  repeat' first | with_reducible exact Le.refl _ | with_reducible refine Le.bind ?_ fun _ => ?_ | with_reducible refine Le.cond ?_ ?_ | with_reducible refine Le.ite ?_ ?_ | with_reducible refine Le.thenS ?_ (fun _ => ?_) (fun _ => ?_) | with_reducible refine Le.loop (fun _ => ?_) _ | with_reducible refine Le.loopL (fun _ _ => ?_) _ _ | exact Le.refl _
def convoy_ordersc (p1 : Convoy) : Option Int :=
  thenS (loopF (convoy_orders_l1c p1) (0, (insm ([] : List Int) p1.Guest_.ID))) (fun _ => thenS (loopF (convoy_orders_l2c p1) 0) (fun _ => some 0) (fun r => some r)) (fun r => some r)
theorem convoy_orders_le (p1 : Convoy) : Le (convoy_ordersc p1) (convoy_orders p1) := by
  unfold convoy_ordersc convoy_orders
  repeat' first | with_reducible exact Le.refl _ | with_reducible exact convoy_orders_l1_le _ _ | with_reducible exact convoy_orders_l2_le _ _ | with_reducible refine Le.bind ?_ fun _ => ?_ | with_reducible refine Le.cond ?_ ?_ | with_reducible refine Le.ite ?_ ?_ | with_reducible refine Le.thenS ?_ (fun _ => ?_) (fun _ => ?_) | with_reducible refine Le.loop (fun _ => ?_) _ | with_reducible refine Le.loopL (fun _ _ => ?_) _ _ | exact Le.refl _
def convoy_sane_1c (p1 : Int) : Option Bool :=
  (convoy_withinc p1 (-4398046511104) 4398046511104).bind fun v1 => some (!v1)
theorem convoy_sane_1_le (p1 : Int) : Le (convoy_sane_1c p1) (convoy_sane_1 p1) := by
  unfold convoy_sane_1c convoy_sane_1
  repeat' first | with_reducible exact Le.refl _ | with_reducible exact convoy_within_le _ _ _ | with_reducible refine Le.bind ?_ fun _ => ?_ | with_reducible refine Le.cond ?_ ?_ | with_reducible refine Le.ite ?_ ?_ | with_reducible refine Le.thenS ?_ (fun _ => ?_) (fun _ => ?_) | with_reducible refine Le.loop (fun _ => ?_) _ | with_reducible refine Le.loopL (fun _ _ => ?_) _ _ | exact Le.refl _
def slices_IndexFunc_int64_int64_convoy_sane_1_l1c (p1 : (List Int)) (x1 : Int) : Option (Stp Int (Sum Unit Int)) :=
  cond (decide (x1 < (p1.length : Int))) ((geti p1 x1).bind fun v1 => (convoy_sane_1c v1).bind fun v2 => cond v2 (some (.out (.inr x1))) (some (.go (w64 (x1 + 1))))) (some (.out (.inl ())))
theorem slices_IndexFunc_int64_int64_convoy_sane_1_l1_le (p1 : (List Int)) (x1 : Int) : Le (slices_IndexFunc_int64_int64_convoy_sane_1_l1c p1 x1) (slices_IndexFunc_int64_int64_convoy_sane_1_l1 p1 x1) := by
  unfold slices_IndexFunc_int64_int64_convoy_sane_1_l1c slices_IndexFunc_int64_int64_convoy_sane_1_l1
  repeat' first | with_reducible exact Le.refl _ | with_reducible exact convoy_sane_1_le _ | with_reducible refine Le.bind ?_ fun _ => ?_ | with_reducible refine Le.cond ?_ ?_ | with_reducible refine Le.ite ?_ ?_ | with_reducible refine Le.thenS ?_ (fun _ => ?_) (fun _ => ?_) | with_reducible refine Le.loop (fun _ => ?_) _ | with_reducible refine Le.loopL (fun _ _ => ?_) _ _ | exact Le.refl _
def slices_IndexFunc_int64_int64_convoy_sane_1c (p1 : (List Int)) : Option Int :=
  thenS (loopF (slices_IndexFunc_int64_int64_convoy_sane_1_l1c p1) 0) (fun _ => some (-1)) (fun r => some r)
theorem slices_IndexFunc_int64_int64_convoy_sane_1_le (p1 : (List Int)) : Le (slices_IndexFunc_int64_int64_convoy_sane_1c p1) (slices_IndexFunc_int64_int64_convoy_sane_1 p1) := by
  unfold slices_IndexFunc_int64_int64_convoy_sane_1c slices_IndexFunc_int64_int64_convoy_sane_1
  repeat' first | with_reducible exact Le.refl _ | with_reducible exact slices_IndexFunc_int64_int64_convoy_sane_1_l1_le _ _ | with_reducible refine Le.bind ?_ fun _ => ?_ | with_reducible refine Le.cond ?_ ?_ | with_reducible refine Le.ite ?_ ?_ | with_reducible refine Le.thenS ?_ (fun _ => ?_) (fun _ => ?_) | with_reducible refine Le.loop (fun _ => ?_) _ | with_reducible refine Le.loopL (fun _ _ => ?_) _ _ | exact Le.refl _
def slices_ContainsFunc_int64_int64_convoy_sane_1c (p1 : (List Int)) : Option Bool :=
  (slices_IndexFunc_int64_int64_convoy_sane_1c p1).bind fun v1 => some (decide (v1 ≥ 0))
theorem slices_ContainsFunc_int64_int64_convoy_sane_1_le (p1 : (List Int)) : Le (slices_ContainsFunc_int64_int64_convoy_sane_1c p1) (slices_ContainsFunc_int64_int64_convoy_sane_1 p1) := by
  unfold slices_ContainsFunc_int64_int64_convoy_sane_1c slices_ContainsFunc_int64_int64_convoy_sane_1
  repeat' first | with_reducible exact Le.refl _ | with_reducible exact slices_IndexFunc_int64_int64_convoy_sane_1_le _ | with_reducible refine Le.bind ?_ fun _ => ?_ | with_reducible refine Le.cond ?_ ?_ | with_reducible refine Le.ite ?_ ?_ | with_reducible refine Le.thenS ?_ (fun _ => ?_) (fun _ => ?_) | with_reducible refine Le.loop (fun _ => ?_) _ | with_reducible refine Le.loopL (fun _ _ => ?_) _ _ | exact Le.refl _
def convoy_sanec (p1 : (List Int)) : Option Bool :=
  (slices_ContainsFunc_int64_int64_convoy_sane_1c p1).bind fun v1 => some (!v1)
theorem convoy_sane_le (p1 : (List Int)) : Le (convoy_sanec p1) (convoy_sane p1) := by
  unfold convoy_sanec convoy_sane
  repeat' first | with_reducible exact Le.refl _ | with_reducible exact slices_ContainsFunc_int64_int64_convoy_sane_1_le _ | with_reducible refine Le.bind ?_ fun _ => ?_ | with_reducible refine Le.cond ?_ ?_ | with_reducible refine Le.ite ?_ ?_ | with_reducible refine Le.thenS ?_ (fun _ => ?_) (fun _ => ?_) | with_reducible refine Le.loop (fun _ => ?_) _ | with_reducible refine Le.loopL (fun _ _ => ?_) _ _ | exact Le.refl _
def world_Stopc (p1 : Int) (p2 : Int) : Option Int :=
  cond ((decide (p1 < 1)) || (decide (p2 < 1))) (some 0) ((quoc .i64 (w64 ((mm2 false p1 1000000) - 1)) (mm2 false p2 1000000)).bind fun v1 => some (w64 ((w64 (v1 * (mm2 false p1 1000000))) - (w64 ((mm2 false p2 1000000) * (w64 ((w64 (v1 * (w64 (v1 + 1)))).tdiv 2)))))))
theorem world_Stop_le (p1 : Int) (p2 : Int) : Le (world_Stopc p1 p2) (world_Stop p1 p2) := by
  unfold world_Stopc world_Stop
  repeat' first | with_reducible exact Le.refl _ | with_reducible refine Le.bind ?_ fun _ => ?_ | with_reducible refine Le.cond ?_ ?_ | with_reducible refine Le.ite ?_ ?_ | with_reducible refine Le.thenS ?_ (fun _ => ?_) (fun _ => ?_) | with_reducible refine Le.loop (fun _ => ?_) _ | with_reducible refine Le.loopL (fun _ _ => ?_) _ _ | exact Le.refl _
def convoy_stopc (p1 : Int) : Option Int :=
  (world_Stopc p1 90).bind fun v1 => some v1
theorem convoy_stop_le (p1 : Int) : Le (convoy_stopc p1) (convoy_stop p1) := by
  unfold convoy_stopc convoy_stop
  repeat' first | with_reducible exact Le.refl _ | with_reducible exact world_Stop_le _ _ | with_reducible refine Le.bind ?_ fun _ => ?_ | with_reducible refine Le.cond ?_ ?_ | with_reducible refine Le.ite ?_ ?_ | with_reducible refine Le.thenS ?_ (fun _ => ?_) (fun _ => ?_) | with_reducible refine Le.loop (fun _ => ?_) _ | with_reducible refine Le.loopL (fun _ _ => ?_) _ _ | exact Le.refl _
def convoy_endc (p1 : Guess) : Option Int :=
  (convoy_stopc p1.V).bind fun v1 => some (w64 (p1.R + v1))
theorem convoy_end_le (p1 : Guess) : Le (convoy_endc p1) (convoy_end p1) := by
  unfold convoy_endc convoy_end
  repeat' first | with_reducible exact Le.refl _ | with_reducible exact convoy_stop_le _ | with_reducible refine Le.bind ?_ fun _ => ?_ | with_reducible refine Le.cond ?_ ?_ | with_reducible refine Le.ite ?_ ?_ | with_reducible refine Le.thenS ?_ (fun _ => ?_) (fun _ => ?_) | with_reducible refine Le.loop (fun _ => ?_) _ | with_reducible refine Le.loopL (fun _ _ => ?_) _ _ | exact Le.refl _
def convoy_Safec (p1 : Int) (p2 : Int) (p3 : Int) (p4 : Guess) : Option Bool :=
  (convoy_sanec [p1, p2, p3, p4.R, p4.V]).bind fun v1 => ((cond (v1 && (decide (p1 ≤ (w64 (p4.R - p3))))) (convoy_stopc p2) (some default))).bind fun v2 => ((cond (v1 && (decide (p1 ≤ (w64 (p4.R - p3))))) (convoy_endc p4) (some default))).bind fun v3 => some ((v1 && (decide (p1 ≤ (w64 (p4.R - p3))))) && (decide ((w64 (p1 + v2)) ≤ (w64 (v3 - p3)))))
theorem convoy_Safe_le (p1 : Int) (p2 : Int) (p3 : Int) (p4 : Guess) : Le (convoy_Safec p1 p2 p3 p4) (convoy_Safe p1 p2 p3 p4) := by
  unfold convoy_Safec convoy_Safe
  repeat' first | with_reducible exact Le.refl _ | with_reducible exact convoy_sane_le _ | with_reducible exact convoy_stop_le _ | with_reducible exact convoy_end_le _ | with_reducible refine Le.bind ?_ fun _ => ?_ | with_reducible refine Le.cond ?_ ?_ | with_reducible refine Le.ite ?_ ?_ | with_reducible refine Le.thenS ?_ (fun _ => ?_) (fun _ => ?_) | with_reducible refine Le.loop (fun _ => ?_) _ | with_reducible refine Le.loopL (fun _ _ => ?_) _ _ | exact Le.refl _
def convoy_keepsc (p1 : Int) (p2 : Mate) (p3 : Int) (p4 : Int) (p5 : Guess) (p6 : Guess) : Option Bool :=
  ((cond (!(p2.Ahead == 0)) (convoy_Safec p3 p4 p1 p5) (some default))).bind fun v1 => ((cond (((p2.Ahead == 0) || v1) && (!(p2.Until == 0))) (convoy_Safec p3 p4 p1 p6) (some default))).bind fun v2 => some (((p2.Ahead == 0) || v1) && ((p2.Until == 0) || v2))
theorem convoy_keeps_le (p1 : Int) (p2 : Mate) (p3 : Int) (p4 : Int) (p5 : Guess) (p6 : Guess) : Le (convoy_keepsc p1 p2 p3 p4 p5 p6) (convoy_keeps p1 p2 p3 p4 p5 p6) := by
  unfold convoy_keepsc convoy_keeps
  repeat' first | with_reducible exact Le.refl _ | with_reducible exact convoy_Safe_le _ _ _ _ | with_reducible refine Le.bind ?_ fun _ => ?_ | with_reducible refine Le.cond ?_ ?_ | with_reducible refine Le.ite ?_ ?_ | with_reducible refine Le.thenS ?_ (fun _ => ?_) (fun _ => ?_) | with_reducible refine Le.loop (fun _ => ?_) _ | with_reducible refine Le.loopL (fun _ _ => ?_) _ _ | exact Le.refl _
def convoy_Check_1_bc (p1 : Mate) (p2 : Convoy) : Option Bool :=
  (convoy_keepsc p2.Gap p1 p1.S p1.V p1.Guess_ p1.WardGuess).bind fun v1 => some (!v1)
theorem convoy_Check_1_b_le (p1 : Mate) (p2 : Convoy) : Le (convoy_Check_1_bc p1 p2) (convoy_Check_1_b p1 p2) := by
  unfold convoy_Check_1_bc convoy_Check_1_b
  repeat' first | with_reducible exact Le.refl _ | with_reducible exact convoy_keeps_le _ _ _ _ _ _ | with_reducible refine Le.bind ?_ fun _ => ?_ | with_reducible refine Le.cond ?_ ?_ | with_reducible refine Le.ite ?_ ?_ | with_reducible refine Le.thenS ?_ (fun _ => ?_) (fun _ => ?_) | with_reducible refine Le.loop (fun _ => ?_) _ | with_reducible refine Le.loopL (fun _ _ => ?_) _ _ | exact Le.refl _
def slices_IndexFunc_Mate_Mate_convoy_Check_1b_l1c (p1 : (List Mate)) (p2 : Convoy) (x1 : Int) : Option (Stp Int (Sum Unit Int)) :=
  cond (decide (x1 < (p1.length : Int))) ((geti p1 x1).bind fun v1 => (convoy_Check_1_bc v1 p2).bind fun v2 => cond v2 (some (.out (.inr x1))) (some (.go (w64 (x1 + 1))))) (some (.out (.inl ())))
theorem slices_IndexFunc_Mate_Mate_convoy_Check_1b_l1_le (p1 : (List Mate)) (p2 : Convoy) (x1 : Int) : Le (slices_IndexFunc_Mate_Mate_convoy_Check_1b_l1c p1 p2 x1) (slices_IndexFunc_Mate_Mate_convoy_Check_1b_l1 p1 p2 x1) := by
  unfold slices_IndexFunc_Mate_Mate_convoy_Check_1b_l1c slices_IndexFunc_Mate_Mate_convoy_Check_1b_l1
  repeat' first | with_reducible exact Le.refl _ | with_reducible exact convoy_Check_1_b_le _ _ | with_reducible refine Le.bind ?_ fun _ => ?_ | with_reducible refine Le.cond ?_ ?_ | with_reducible refine Le.ite ?_ ?_ | with_reducible refine Le.thenS ?_ (fun _ => ?_) (fun _ => ?_) | with_reducible refine Le.loop (fun _ => ?_) _ | with_reducible refine Le.loopL (fun _ _ => ?_) _ _ | exact Le.refl _
def slices_IndexFunc_Mate_Mate_convoy_Check_1bc (p1 : (List Mate)) (p2 : Convoy) : Option Int :=
  thenS (loopF (slices_IndexFunc_Mate_Mate_convoy_Check_1b_l1c p1 p2) 0) (fun _ => some (-1)) (fun r => some r)
theorem slices_IndexFunc_Mate_Mate_convoy_Check_1b_le (p1 : (List Mate)) (p2 : Convoy) : Le (slices_IndexFunc_Mate_Mate_convoy_Check_1bc p1 p2) (slices_IndexFunc_Mate_Mate_convoy_Check_1b p1 p2) := by
  unfold slices_IndexFunc_Mate_Mate_convoy_Check_1bc slices_IndexFunc_Mate_Mate_convoy_Check_1b
  repeat' first | with_reducible exact Le.refl _ | with_reducible exact slices_IndexFunc_Mate_Mate_convoy_Check_1b_l1_le _ _ _ | with_reducible refine Le.bind ?_ fun _ => ?_ | with_reducible refine Le.cond ?_ ?_ | with_reducible refine Le.ite ?_ ?_ | with_reducible refine Le.thenS ?_ (fun _ => ?_) (fun _ => ?_) | with_reducible refine Le.loop (fun _ => ?_) _ | with_reducible refine Le.loopL (fun _ _ => ?_) _ _ | exact Le.refl _
def slices_ContainsFunc_Mate_Mate_convoy_Check_1bc (p1 : (List Mate)) (p2 : Convoy) : Option Bool :=
  (slices_IndexFunc_Mate_Mate_convoy_Check_1bc p1 p2).bind fun v1 => some (decide (v1 ≥ 0))
theorem slices_ContainsFunc_Mate_Mate_convoy_Check_1b_le (p1 : (List Mate)) (p2 : Convoy) : Le (slices_ContainsFunc_Mate_Mate_convoy_Check_1bc p1 p2) (slices_ContainsFunc_Mate_Mate_convoy_Check_1b p1 p2) := by
  unfold slices_ContainsFunc_Mate_Mate_convoy_Check_1bc slices_ContainsFunc_Mate_Mate_convoy_Check_1b
  repeat' first | with_reducible exact Le.refl _ | with_reducible exact slices_IndexFunc_Mate_Mate_convoy_Check_1b_le _ _ | with_reducible refine Le.bind ?_ fun _ => ?_ | with_reducible refine Le.cond ?_ ?_ | with_reducible refine Le.ite ?_ ?_ | with_reducible refine Le.thenS ?_ (fun _ => ?_) (fun _ => ?_) | with_reducible refine Le.loop (fun _ => ?_) _ | with_reducible refine Le.loopL (fun _ _ => ?_) _ _ | exact Le.refl _
def convoy_Check_l1c (p1 : Convoy) (x1 : Int) : Option (Stp Int (Sum Unit Int)) :=
  cond (decide (x1 < (p1.Mates.length : Int))) ((geti p1.Mates x1).bind fun v3 => cond ((((x1 == 0) && (v3.Ahead != 0)) || (((decide (x1 > 0)) && (v3.Until == 0)) && (v3.Ahead == 0))) || ((v3.Ward == 0) && (v3.Until != 0))) (some (.out (.inr 10))) (some (.go (w64 (x1 + 1))))) (some (.out (.inl ())))
theorem convoy_Check_l1_le (p1 : Convoy) (x1 : Int) : Le (convoy_Check_l1c p1 x1) (convoy_Check_l1 p1 x1) := by
  unfold convoy_Check_l1c convoy_Check_l1
  repeat' first | with_reducible exact Le.refl _ | with_reducible refine Le.bind ?_ fun _ => ?_ | with_reducible refine Le.cond ?_ ?_ | with_reducible refine Le.ite ?_ ?_ | with_reducible refine Le.thenS ?_ (fun _ => ?_) (fun _ => ?_) | with_reducible refine Le.loop (fun _ => ?_) _ | with_reducible refine Le.loopL (fun _ _ => ?_) _ _ | exact Le.refl _
def convoy_Checkc (p1 : Convoy) : Option Int :=
  (convoy_numbersc p1).bind fun v1 => cond (v1 != 0) (some v1) ((convoy_ordersc p1).bind fun v2 => cond (v2 != 0) (some v2) (thenS (loopF (convoy_Check_l1c p1) 0) (fun _ => (slices_ContainsFunc_Mate_Mate_convoy_Check_1bc p1.Mates p1).bind fun v4 => ((cond ((!v4) && (p1.Guest_.ID != 0)) (convoy_stopc p1.Guest_.V) (some default))).bind fun v5 => cond (v4 || ((p1.Guest_.ID != 0) && (decide ((w64 (p1.Guest_.S + v5)) ≥ p1.Guest_.End)))) (some 12) (some 0)) (fun r => some r)))
theorem convoy_Check_le (p1 : Convoy) : Le (convoy_Checkc p1) (convoy_Check p1) := by
  unfold convoy_Checkc convoy_Check
  repeat' first | with_reducible exact Le.refl _ | with_reducible exact convoy_numbers_le _ | with_reducible exact convoy_orders_le _ | with_reducible exact convoy_Check_l1_le _ _ | with_reducible exact slices_ContainsFunc_Mate_Mate_convoy_Check_1b_le _ _ | with_reducible exact convoy_stop_le _ | with_reducible refine Le.bind ?_ fun _ => ?_ | with_reducible refine Le.cond ?_ ?_ | with_reducible refine Le.ite ?_ ?_ | with_reducible refine Le.thenS ?_ (fun _ => ?_) (fun _ => ?_) | with_reducible refine Le.loop (fun _ => ?_) _ | with_reducible refine Le.loopL (fun _ _ => ?_) _ _ | exact Le.refl _
def convoy_New_l1c (p2 : (List Mate)) (x1 : (Int × Convoy)) : Option (Stp (Int × Convoy) Convoy) :=
  cond (decide (x1.1 < (p2.length : Int))) ((geti p2 x1.1).bind fun v1 => (cond (decide (x1.1 > 0)) ((geti p2 (w64 (x1.1 - 1))).bind fun v2 => (geti p2 (w64 (x1.1 - 1))).bind fun v3 => (geti p2 (w64 (x1.1 - 1))).bind fun v4 => some (Mate.mk (w64 (x1.1 + 1)) v1.S v1.V v1.Len x1.1 (Guess.mk (w64 (v2.S - v3.Len)) v4.V) true 0 (Guess.mk 0 0) 0)) (some (Mate.mk (w64 (x1.1 + 1)) v1.S v1.V v1.Len 0 (Guess.mk 0 0) true 0 (Guess.mk 0 0) 0))).bind fun y2 => (appc x1.2.Mates [y2]).bind fun v5 => some (.go ((w64 (x1.1 + 1)), (Convoy.mk x1.2.Tick x1.2.Gap v5 x1.2.Guest_)))) (some (.out x1.2))
theorem convoy_New_l1_le (p2 : (List Mate)) (x1 : (Int × Convoy)) : Le (convoy_New_l1c p2 x1) (convoy_New_l1 p2 x1) := by
  unfold convoy_New_l1c convoy_New_l1
  repeat' first | with_reducible exact Le.refl _ | with_reducible refine Le.bind ?_ fun _ => ?_ | with_reducible refine Le.cond ?_ ?_ | with_reducible refine Le.ite ?_ ?_ | with_reducible refine Le.thenS ?_ (fun _ => ?_) (fun _ => ?_) | with_reducible refine Le.loop (fun _ => ?_) _ | with_reducible refine Le.loopL (fun _ _ => ?_) _ _ | exact Le.refl _
def convoy_Newc (p1 : Int) (p2 : (List Mate)) : Option (Convoy × Int) :=
  (loopF (convoy_New_l1c p2) (0, (Convoy.mk 0 p1 [] (Guest.mk 0 0 0 0 0 0 (Guess.mk 0 0) 0 0)))).bind fun y1 => (convoy_Checkc y1).bind fun v6 => cond (v6 != 0) (some ((Convoy.mk 0 0 [] (Guest.mk 0 0 0 0 0 0 (Guess.mk 0 0) 0 0)), v6)) (some (y1, 0))
theorem convoy_New_le (p1 : Int) (p2 : (List Mate)) : Le (convoy_Newc p1 p2) (convoy_New p1 p2) := by
  unfold convoy_Newc convoy_New
  repeat' first | with_reducible exact Le.refl _ | with_reducible exact convoy_New_l1_le _ _ | with_reducible exact convoy_Check_le _ | with_reducible refine Le.bind ?_ fun _ => ?_ | with_reducible refine Le.cond ?_ ?_ | with_reducible refine Le.ite ?_ ?_ | with_reducible refine Le.thenS ?_ (fun _ => ?_) (fun _ => ?_) | with_reducible refine Le.loop (fun _ => ?_) _ | with_reducible refine Le.loopL (fun _ _ => ?_) _ _ | exact Le.refl _
def law09_shownc : Option Convoy :=
  (convoy_Newc 1000 [(Mate.mk 0 50000 1000 4000 0 (Guess.mk 0 0) false 0 (Guess.mk 0 0) 0), (Mate.mk 0 40000 1000 4000 0 (Guess.mk 0 0) false 0 (Guess.mk 0 0) 0)]).bind fun v1 => cond ((v1.2 != 0) || ((v1.1.Mates.length : Int) != 2)) (some (Convoy.mk 0 0 [] (Guest.mk 0 0 0 0 0 0 (Guess.mk 0 0) 0 0))) (some v1.1)
theorem law09_shown_le : Le (law09_shownc) (law09_shown) := by
  unfold law09_shownc law09_shown
  repeat' first | with_reducible exact Le.refl _ | with_reducible exact convoy_New_le _ _ | with_reducible refine Le.bind ?_ fun _ => ?_ | with_reducible refine Le.cond ?_ ?_ | with_reducible refine Le.ite ?_ ?_ | with_reducible refine Le.thenS ?_ (fun _ => ?_) (fun _ => ?_) | with_reducible refine Le.loop (fun _ => ?_) _ | with_reducible refine Le.loopL (fun _ _ => ?_) _ _ | exact Le.refl _
def convoy_Age_l1c (p2 : Int) (x1 : (Int × Guess)) : Option (Stp (Int × Guess) Guess) :=
  cond (decide (x1.1 < (mm2 true 0 (mm2 false p2 30)))) (some (.go ((w64 (x1.1 + 1)), (Guess.mk (w64 (x1.2.R + (mm2 true 0 (w64 (x1.2.V - 90))))) (mm2 true 0 (w64 (x1.2.V - 90))))))) (some (.out x1.2))
theorem convoy_Age_l1_le (p2 : Int) (x1 : (Int × Guess)) : Le (convoy_Age_l1c p2 x1) (convoy_Age_l1 p2 x1) := by
  unfold convoy_Age_l1c convoy_Age_l1
  repeat' first | with_reducible exact Le.refl _ | with_reducible refine Le.bind ?_ fun _ => ?_ | with_reducible refine Le.cond ?_ ?_ | with_reducible refine Le.ite ?_ ?_ | with_reducible refine Le.thenS ?_ (fun _ => ?_) (fun _ => ?_) | with_reducible refine Le.loop (fun _ => ?_) _ | with_reducible refine Le.loopL (fun _ _ => ?_) _ _ | exact Le.refl _
def convoy_Agec (p1 : Guess) (p2 : Int) : Option Guess :=
  (convoy_sanec [p1.R, p1.V]).bind fun v1 => cond (!v1) (some (Guess.mk 0 0)) ((loopF (convoy_Age_l1c p2) (0, p1)).bind fun y1 => some y1)
theorem convoy_Age_le (p1 : Guess) (p2 : Int) : Le (convoy_Agec p1 p2) (convoy_Age p1 p2) := by
  unfold convoy_Agec convoy_Age
  repeat' first | with_reducible exact Le.refl _ | with_reducible exact convoy_sane_le _ | with_reducible exact convoy_Age_l1_le _ _ | with_reducible refine Le.bind ?_ fun _ => ?_ | with_reducible refine Le.cond ?_ ?_ | with_reducible refine Le.ite ?_ ?_ | with_reducible refine Le.thenS ?_ (fun _ => ?_) (fun _ => ?_) | with_reducible refine Le.loop (fun _ => ?_) _ | with_reducible refine Le.loopL (fun _ _ => ?_) _ _ | exact Le.refl _
def convoy_find_1_bc (p1 : Mate) (p2 : Int) : Option Bool :=
  some (p1.ID == p2)
theorem convoy_find_1_b_le (p1 : Mate) (p2 : Int) : Le (convoy_find_1_bc p1 p2) (convoy_find_1_b p1 p2) := by
  unfold convoy_find_1_bc convoy_find_1_b
  repeat' first | with_reducible exact Le.refl _ | with_reducible refine Le.bind ?_ fun _ => ?_ | with_reducible refine Le.cond ?_ ?_ | with_reducible refine Le.ite ?_ ?_ | with_reducible refine Le.thenS ?_ (fun _ => ?_) (fun _ => ?_) | with_reducible refine Le.loop (fun _ => ?_) _ | with_reducible refine Le.loopL (fun _ _ => ?_) _ _ | exact Le.refl _
def slices_IndexFunc_Mate_Mate_convoy_find_1b_l1c (p1 : (List Mate)) (p2 : Int) (x1 : Int) : Option (Stp Int (Sum Unit Int)) :=
  cond (decide (x1 < (p1.length : Int))) ((geti p1 x1).bind fun v1 => (convoy_find_1_bc v1 p2).bind fun v2 => cond v2 (some (.out (.inr x1))) (some (.go (w64 (x1 + 1))))) (some (.out (.inl ())))
theorem slices_IndexFunc_Mate_Mate_convoy_find_1b_l1_le (p1 : (List Mate)) (p2 : Int) (x1 : Int) : Le (slices_IndexFunc_Mate_Mate_convoy_find_1b_l1c p1 p2 x1) (slices_IndexFunc_Mate_Mate_convoy_find_1b_l1 p1 p2 x1) := by
  unfold slices_IndexFunc_Mate_Mate_convoy_find_1b_l1c slices_IndexFunc_Mate_Mate_convoy_find_1b_l1
  repeat' first | with_reducible exact Le.refl _ | with_reducible exact convoy_find_1_b_le _ _ | with_reducible refine Le.bind ?_ fun _ => ?_ | with_reducible refine Le.cond ?_ ?_ | with_reducible refine Le.ite ?_ ?_ | with_reducible refine Le.thenS ?_ (fun _ => ?_) (fun _ => ?_) | with_reducible refine Le.loop (fun _ => ?_) _ | with_reducible refine Le.loopL (fun _ _ => ?_) _ _ | exact Le.refl _
def slices_IndexFunc_Mate_Mate_convoy_find_1bc (p1 : (List Mate)) (p2 : Int) : Option Int :=
  thenS (loopF (slices_IndexFunc_Mate_Mate_convoy_find_1b_l1c p1 p2) 0) (fun _ => some (-1)) (fun r => some r)
theorem slices_IndexFunc_Mate_Mate_convoy_find_1b_le (p1 : (List Mate)) (p2 : Int) : Le (slices_IndexFunc_Mate_Mate_convoy_find_1bc p1 p2) (slices_IndexFunc_Mate_Mate_convoy_find_1b p1 p2) := by
  unfold slices_IndexFunc_Mate_Mate_convoy_find_1bc slices_IndexFunc_Mate_Mate_convoy_find_1b
  repeat' first | with_reducible exact Le.refl _ | with_reducible exact slices_IndexFunc_Mate_Mate_convoy_find_1b_l1_le _ _ _ | with_reducible refine Le.bind ?_ fun _ => ?_ | with_reducible refine Le.cond ?_ ?_ | with_reducible refine Le.ite ?_ ?_ | with_reducible refine Le.thenS ?_ (fun _ => ?_) (fun _ => ?_) | with_reducible refine Le.loop (fun _ => ?_) _ | with_reducible refine Le.loopL (fun _ _ => ?_) _ _ | exact Le.refl _
def convoy_findc (p1 : (List Mate)) (p2 : Int) : Option Int :=
  (slices_IndexFunc_Mate_Mate_convoy_find_1bc p1 p2).bind fun v1 => some v1
theorem convoy_find_le (p1 : (List Mate)) (p2 : Int) : Le (convoy_findc p1 p2) (convoy_find p1 p2) := by
  unfold convoy_findc convoy_find
  repeat' first | with_reducible exact Le.refl _ | with_reducible exact slices_IndexFunc_Mate_Mate_convoy_find_1b_le _ _ | with_reducible refine Le.bind ?_ fun _ => ?_ | with_reducible refine Le.cond ?_ ?_ | with_reducible refine Le.ite ?_ ?_ | with_reducible refine Le.thenS ?_ (fun _ => ?_) (fun _ => ?_) | with_reducible refine Le.loop (fun _ => ?_) _ | with_reducible refine Le.loopL (fun _ _ => ?_) _ _ | exact Le.refl _
def convoy_Belowc (p1 : Guess) (p2 : Int) (p3 : Int) : Option Bool :=
  (convoy_sanec [p1.R, p1.V, p2, p3]).bind fun v1 => ((cond (v1 && (decide (p1.R ≤ p2))) (convoy_endc p1) (some default))).bind fun v2 => ((cond (v1 && (decide (p1.R ≤ p2))) (convoy_stopc p3) (some default))).bind fun v3 => some ((v1 && (decide (p1.R ≤ p2))) && (decide (v2 ≤ (w64 (p2 + v3)))))
theorem convoy_Below_le (p1 : Guess) (p2 : Int) (p3 : Int) : Le (convoy_Belowc p1 p2 p3) (convoy_Below p1 p2 p3) := by
  unfold convoy_Belowc convoy_Below
  repeat' first | with_reducible exact Le.refl _ | with_reducible exact convoy_sane_le _ | with_reducible exact convoy_end_le _ | with_reducible exact convoy_stop_le _ | with_reducible refine Le.bind ?_ fun _ => ?_ | with_reducible refine Le.cond ?_ ?_ | with_reducible refine Le.ite ?_ ?_ | with_reducible refine Le.thenS ?_ (fun _ => ?_) (fun _ => ?_) | with_reducible refine Le.loop (fun _ => ?_) _ | with_reducible refine Le.loopL (fun _ _ => ?_) _ _ | exact Le.refl _
def convoy_holdsc (p1 : (List Mate)) (p2 : Int) (p3 : Guess) : Option Bool :=
  (convoy_findc p1 p2).bind fun v1 => ((cond (decide (v1 ≥ 0)) (geti p1 v1) (some default))).bind fun v2 => ((cond (decide (v1 ≥ 0)) (convoy_rearc v2) (some default))).bind fun v3 => ((cond (decide (v1 ≥ 0)) (geti p1 v1) (some default))).bind fun v4 => ((cond (decide (v1 ≥ 0)) (convoy_Belowc p3 v3 v4.V) (some default))).bind fun v5 => some ((decide (v1 ≥ 0)) && v5)
theorem convoy_holds_le (p1 : (List Mate)) (p2 : Int) (p3 : Guess) : Le (convoy_holdsc p1 p2 p3) (convoy_holds p1 p2 p3) := by
  unfold convoy_holdsc convoy_holds
  repeat' first | with_reducible exact Le.refl _ | with_reducible exact convoy_find_le _ _ | with_reducible exact convoy_rear_le _ | with_reducible exact convoy_Below_le _ _ _ | with_reducible refine Le.bind ?_ fun _ => ?_ | with_reducible refine Le.cond ?_ ?_ | with_reducible refine Le.ite ?_ ?_ | with_reducible refine Le.thenS ?_ (fun _ => ?_) (fun _ => ?_) | with_reducible refine Le.loop (fun _ => ?_) _ | with_reducible refine Le.loopL (fun _ _ => ?_) _ _ | exact Le.refl _
def convoy_Sound_l1c (p1 : Convoy) (x1 : Int) : Option (Stp Int (Sum Unit Bool)) :=
  cond (decide (x1 < (p1.Mates.length : Int))) ((geti p1.Mates x1).bind fun v2 => ((cond (v2.Ahead != 0) (subl p1.Mates 0 x1) (some default))).bind fun v3 => ((cond (v2.Ahead != 0) (convoy_holdsc v3 v2.Ahead v2.Guess_) (some default))).bind fun v4 => cond ((v2.Ahead != 0) && (!v4)) (some (.out (.inr false))) (((cond (v2.Until != 0) (subl p1.Mates 0 x1) (some default))).bind fun v5 => ((cond (v2.Until != 0) (convoy_findc v5 v2.Ward) (some default))).bind fun v6 => ((cond ((v2.Until != 0) && (decide (v6 ≥ 0))) (subl p1.Mates 0 x1) (some default))).bind fun v7 => ((cond ((v2.Until != 0) && (decide (v6 ≥ 0))) (convoy_holdsc v7 v2.Ward v2.WardGuess) (some default))).bind fun v8 => cond (((v2.Until != 0) && (decide (v6 ≥ 0))) && (!v8)) (some (.out (.inr false))) (((cond ((v2.Until != 0) && (v2.Ward == p1.Guest_.ID)) (convoy_Belowc v2.WardGuess (w64 (p1.Guest_.S - p1.Guest_.Len)) p1.Guest_.V) (some default))).bind fun v9 => cond (((v2.Until != 0) && (v2.Ward == p1.Guest_.ID)) && (!v9)) (some (.out (.inr false))) (((cond (decide (x1 > 0)) (geti p1.Mates (w64 (x1 - 1))) (some default))).bind fun v10 => ((cond (((decide (x1 > 0)) && (v10.ID != v2.Ahead)) && (!(v2.Until == 0))) (geti p1.Mates (w64 (x1 - 1))) (some default))).bind fun v11 => cond (((decide (x1 > 0)) && (v10.ID != v2.Ahead)) && ((v2.Until == 0) || (v11.ID != v2.Ward))) (some (.out (.inr false))) (some (.go (w64 (x1 + 1)))))))) (some (.out (.inl ())))
theorem convoy_Sound_l1_le (p1 : Convoy) (x1 : Int) : Le (convoy_Sound_l1c p1 x1) (convoy_Sound_l1 p1 x1) := by
  unfold convoy_Sound_l1c convoy_Sound_l1
  repeat' first | with_reducible exact Le.refl _ | with_reducible exact convoy_holds_le _ _ _ | with_reducible exact convoy_find_le _ _ | with_reducible exact convoy_Below_le _ _ _ | with_reducible refine Le.bind ?_ fun _ => ?_ | with_reducible refine Le.cond ?_ ?_ | with_reducible refine Le.ite ?_ ?_ | with_reducible refine Le.thenS ?_ (fun _ => ?_) (fun _ => ?_) | with_reducible refine Le.loop (fun _ => ?_) _ | with_reducible refine Le.loopL (fun _ _ => ?_) _ _ | exact Le.refl _
def convoy_Soundc (p1 : Convoy) : Option Bool :=
  (convoy_Checkc p1).bind fun v1 => cond (v1 != 0) (some false) (thenS (loopF (convoy_Sound_l1c p1) 0) (fun _ => ((cond (!(p1.Guest_.Ahead == 0)) (convoy_holdsc p1.Mates p1.Guest_.Ahead p1.Guest_.Guess_) (some default))).bind fun v12 => some ((p1.Guest_.Ahead == 0) || v12)) (fun r => some r))
theorem convoy_Sound_le (p1 : Convoy) : Le (convoy_Soundc p1) (convoy_Sound p1) := by
  unfold convoy_Soundc convoy_Sound
  repeat' first | with_reducible exact Le.refl _ | with_reducible exact convoy_Check_le _ | with_reducible exact convoy_Sound_l1_le _ _ | with_reducible exact convoy_holds_le _ _ _ | with_reducible refine Le.bind ?_ fun _ => ?_ | with_reducible refine Le.cond ?_ ?_ | with_reducible refine Le.ite ?_ ?_ | with_reducible refine Le.thenS ?_ (fun _ => ?_) (fun _ => ?_) | with_reducible refine Le.loop (fun _ => ?_) _ | with_reducible refine Le.loopL (fun _ _ => ?_) _ _ | exact Le.refl _
def convoy_Gaps_l1c (p1 : Convoy) (x1 : ((List Int) × Int)) : Option (Stp ((List Int) × Int) (List Int)) :=
  cond (decide (x1.2 < (p1.Mates.length : Int))) ((geti p1.Mates (w64 (x1.2 - 1))).bind fun v2 => (convoy_rearc v2).bind fun v3 => (geti p1.Mates x1.2).bind fun v4 => (appc x1.1 [(w64 (v3 - v4.S))]).bind fun v5 => some (.go (v5, (w64 (x1.2 + 1))))) (some (.out x1.1))
theorem convoy_Gaps_l1_le (p1 : Convoy) (x1 : ((List Int) × Int)) : Le (convoy_Gaps_l1c p1 x1) (convoy_Gaps_l1 p1 x1) := by
  unfold convoy_Gaps_l1c convoy_Gaps_l1
  repeat' first | with_reducible exact Le.refl _ | with_reducible exact convoy_rear_le _ | with_reducible refine Le.bind ?_ fun _ => ?_ | with_reducible refine Le.cond ?_ ?_ | with_reducible refine Le.ite ?_ ?_ | with_reducible refine Le.thenS ?_ (fun _ => ?_) (fun _ => ?_) | with_reducible refine Le.loop (fun _ => ?_) _ | with_reducible refine Le.loopL (fun _ _ => ?_) _ _ | exact Le.refl _
def convoy_Gapsc (p1 : Convoy) : Option (List Int) :=
  (convoy_Checkc p1).bind fun v1 => cond (v1 != 0) (some []) ((loopF (convoy_Gaps_l1c p1) ([], 1)).bind fun y1 => some y1)
theorem convoy_Gaps_le (p1 : Convoy) : Le (convoy_Gapsc p1) (convoy_Gaps p1) := by
  unfold convoy_Gapsc convoy_Gaps
  repeat' first | with_reducible exact Le.refl _ | with_reducible exact convoy_Check_le _ | with_reducible exact convoy_Gaps_l1_le _ _ | with_reducible refine Le.bind ?_ fun _ => ?_ | with_reducible refine Le.cond ?_ ?_ | with_reducible refine Le.ite ?_ ?_ | with_reducible refine Le.thenS ?_ (fun _ => ?_) (fun _ => ?_) | with_reducible refine Le.loop (fun _ => ?_) _ | with_reducible refine Le.loopL (fun _ _ => ?_) _ _ | exact Le.refl _
def kit_SameLongs_l1c (p1 : (List Int)) (p2 : (List Int)) (x1 : Int) : Option (Stp Int (Sum Unit Bool)) :=
  cond ((decide (x1 < (p1.length : Int))) && (decide (x1 < (p2.length : Int)))) ((geti p1 x1).bind fun v1 => (geti p2 x1).bind fun v2 => cond (v1 != v2) (some (.out (.inr false))) (some (.go (w64 (x1 + 1))))) (some (.out (.inl ())))
theorem kit_SameLongs_l1_le (p1 : (List Int)) (p2 : (List Int)) (x1 : Int) : Le (kit_SameLongs_l1c p1 p2 x1) (kit_SameLongs_l1 p1 p2 x1) := by
  unfold kit_SameLongs_l1c kit_SameLongs_l1
  repeat' first | with_reducible exact Le.refl _ | with_reducible refine Le.bind ?_ fun _ => ?_ | with_reducible refine Le.cond ?_ ?_ | with_reducible refine Le.ite ?_ ?_ | with_reducible refine Le.thenS ?_ (fun _ => ?_) (fun _ => ?_) | with_reducible refine Le.loop (fun _ => ?_) _ | with_reducible refine Le.loopL (fun _ _ => ?_) _ _ | exact Le.refl _
def kit_SameLongsc (p1 : (List Int)) (p2 : (List Int)) : Option Bool :=
  thenS (loopF (kit_SameLongs_l1c p1 p2) 0) (fun _ => some ((p1.length : Int) == (p2.length : Int))) (fun r => some r)
theorem kit_SameLongs_le (p1 : (List Int)) (p2 : (List Int)) : Le (kit_SameLongsc p1 p2) (kit_SameLongs p1 p2) := by
  unfold kit_SameLongsc kit_SameLongs
  repeat' first | with_reducible exact Le.refl _ | with_reducible exact kit_SameLongs_l1_le _ _ _ | with_reducible refine Le.bind ?_ fun _ => ?_ | with_reducible refine Le.cond ?_ ?_ | with_reducible refine Le.ite ?_ ?_ | with_reducible refine Le.thenS ?_ (fun _ => ?_) (fun _ => ?_) | with_reducible refine Le.loop (fun _ => ?_) _ | with_reducible refine Le.loopL (fun _ _ => ?_) _ _ | exact Le.refl _
def law09_awakec : Option Bool :=
  (law09_shownc).bind fun v1 => ((cond ((v1.Mates.length : Int) == 2) (convoy_Agec (Guess.mk 0 200) 2) (some default))).bind fun v2 => ((cond (((v1.Mates.length : Int) == 2) && (v2.R == 130 && (v2.V == 20 && true))) (convoy_Soundc v1) (some default))).bind fun v3 => ((cond ((((v1.Mates.length : Int) == 2) && (v2.R == 130 && (v2.V == 20 && true))) && v3) (convoy_Gapsc v1) (some default))).bind fun v4 => ((cond ((((v1.Mates.length : Int) == 2) && (v2.R == 130 && (v2.V == 20 && true))) && v3) (kit_SameLongsc v4 [6000]) (some default))).bind fun v5 => ((cond (((((v1.Mates.length : Int) == 2) && (v2.R == 130 && (v2.V == 20 && true))) && v3) && v5) (convoy_Safec 0 191 1000 (Guess.mk 1000 100)) (some default))).bind fun v6 => some ((((((v1.Mates.length : Int) == 2) && (v2.R == 130 && (v2.V == 20 && true))) && v3) && v5) && (!v6))
theorem law09_awake_le : Le (law09_awakec) (law09_awake) := by
  unfold law09_awakec law09_awake
  repeat' first | with_reducible exact Le.refl _ | with_reducible exact law09_shown_le | with_reducible exact convoy_Age_le _ _ | with_reducible exact convoy_Sound_le _ | with_reducible exact convoy_Gaps_le _ | with_reducible exact kit_SameLongs_le _ _ | with_reducible exact convoy_Safe_le _ _ _ _ | with_reducible refine Le.bind ?_ fun _ => ?_ | with_reducible refine Le.cond ?_ ?_ | with_reducible refine Le.ite ?_ ?_ | with_reducible refine Le.thenS ?_ (fun _ => ?_) (fun _ => ?_) | with_reducible refine Le.loop (fun _ => ?_) _ | with_reducible refine Le.loopL (fun _ _ => ?_) _ _ | exact Le.refl _
end Go.Abs.Convoyz

namespace Go.Abs.Convoyz
open Go Go.Abs
noncomputable def kit_Mod64 (p1 : Int) (p2 : Int) : Option Int :=
  (remc p1 p2).bind fun v1 => cond (decide (v1 < 0)) (some (w64 (v1 + p2))) (some v1)
noncomputable def slices_Equal_Mate_Mate_l1 (p1 : (List Mate)) (p2 : (List Mate)) (x1 : Int) : Option (Stp Int (Sum Unit Bool)) :=
  cond (decide (x1 < (p1.length : Int))) ((geti p1 x1).bind fun v1 => (geti p2 x1).bind fun v2 => cond (!(v1.ID == v2.ID && (v1.S == v2.S && (v1.V == v2.V && (v1.Len == v2.Len && (v1.Ahead == v2.Ahead && (v1.Guess_.R == v2.Guess_.R && (v1.Guess_.V == v2.Guess_.V && (v1.Trust == v2.Trust && (v1.Ward == v2.Ward && (v1.WardGuess.R == v2.WardGuess.R && (v1.WardGuess.V == v2.WardGuess.V && (v1.Until == v2.Until && true))))))))))))) (some (.out (.inr false))) (some (.go (w64 (x1 + 1))))) (some (.out (.inl ())))
end Go.Abs.Convoyz
namespace Go.Abs.Convoyz
open Go Go.Abs
theorem awake_eq : law09_awake = some true := law09_awake_le _ (by decide +kernel)
end Go.Abs.Convoyz

namespace Go.Abs.Convoyz
open Go Go.Abs

theorem cond_some {α : Type} (c : Bool) (a b : α) : cond c (some a) (some b) = some (cond c a b) := by cases c <;> rfl
/-- The place of the first element with a property. -/
theorem index_loop {α : Type} {f : Int → Option (Stp Int (Sum Unit Int))} (l : List α) (P : α → Bool) (hl : l.length ≤ 1000000000) (hf : ∀ (i : Nat) a, l[i]? = some a → f (i : Int) = some (if P a then .out (.inr (i : Int)) else .go (w64 ((i : Int) + 1)))) (he : f (l.length : Int) = some (.out (.inl ()))) :
    loop f 0 = some (match l.findIdx? P with | some i => .inr (i : Int) | none => .inl ()) := by
  have key : ∀ (r : List α) (i : Nat), l.drop i = r → i ≤ l.length → loop f (i : Int) = some (match r.findIdx? P with | some j => .inr ((i + j : Nat) : Int) | none => .inl ()) := by
    intro r
    induction r with
    | nil =>
      intro i hi hil
      have := drop_nil hi
      obtain rfl : i = l.length := by omega
      rw [loop_out he]; rfl
    | cons a r ih =>
      intro i hi _
      have hlt := drop_lt hi
      have h0 : l[i]? = some a := by have := congrArg (fun z => z[0]?) hi; simpa using this
      have hs := hf i a h0
      rw [List.findIdx?_cons]
      by_cases hp : P a = true
      · rw [if_pos hp] at hs
        rw [loop_out hs, if_pos hp]; simp
      · rw [if_neg hp] at hs
        rw [w64_id (by omega)] at hs
        rw [loop_go hs, show ((i : Int) + 1) = ((i + 1 : Nat) : Int) by omega, ih (i + 1) (drop_succ hi) (by omega), if_neg hp]
        cases r.findIdx? P with
        | none => rfl
        | some j => simp only [Option.map_some]; congr 3; omega
  have := key l 0 rfl (by omega)
  rw [show ((0 : Nat) : Int) = 0 from rfl] at this
  rw [this]
  cases l.findIdx? P <;> simp
/-- -1, or the place. -/
def idxI {α : Type} (P : α → Bool) (l : List α) : Int := match l.findIdx? P with | some i => (i : Int) | none => -1
theorem idxI_any {α : Type} (P : α → Bool) (l : List α) : decide (idxI P l ≥ 0) = l.any P := by
  unfold idxI
  cases h : l.findIdx? P with
  | none =>
    have := List.findIdx?_eq_none_iff.1 h
    rw [show l.any P = false by rw [List.any_eq_false]; intro x hx; simpa using this x hx]
    decide
  | some i =>
    have := List.findIdx?_isSome (xs := l) (p := P)
    rw [h] at this
    rw [← this]
    simp
/-- What both twins compute of a list. -/
theorem index_eq {α : Type} {f : Int → Option (Stp Int (Sum Unit Int))} (l : List α) (P : α → Bool) (hl : l.length ≤ 1000000000) (hf : ∀ (i : Nat) a, l[i]? = some a → f (i : Int) = some (if P a then .out (.inr (i : Int)) else .go (w64 ((i : Int) + 1)))) (he : f (l.length : Int) = some (.out (.inl ()))) :
    thenS (loop f 0) (fun _ => some (-1)) (fun r => some r) = some (idxI P l) := by
  rw [index_loop l P hl hf he]
  unfold idxI
  cases l.findIdx? P <;> rfl
theorem geti_some {α : Type} {l : List α} {i : Nat} {a : α} (h : l[i]? = some a) : geti l (i : Int) = some a := by
  unfold geti
  rw [if_pos (by omega), Int.toNat_natCast, h]
theorem get_lt {α : Type} {l : List α} {i : Nat} {a : α} (h : l[i]? = some a) : i < l.length := (List.getElem?_eq_some_iff.1 h).1

/-! ### Numbers that can be computed with -/
def sane1 (n : Int) : Bool := decide (-4398046511104 ≤ n) && decide (n ≤ 4398046511104)
def saneM (l : List Int) : Bool := l.all sane1
theorem convoy_sane_eq (l : List Int) (hl : l.length ≤ 1000000000) : convoy_sane l = some (saneM l) := by
  unfold convoy_sane slices_ContainsFunc_int64_int64_convoy_sane_1 slices_IndexFunc_int64_int64_convoy_sane_1
  rw [index_eq l (fun n => !sane1 n) hl (fun i a h => by
    have := get_lt h
    unfold slices_IndexFunc_int64_int64_convoy_sane_1_l1 convoy_sane_1 convoy_within
    rw [show decide ((i : Int) < (l.length : Int)) = true from decide_eq_true (by omega), geti_some h]
    simp only [cond_true, Option.bind_some]
    unfold sane1
    cases (decide (-4398046511104 ≤ a) && decide (a ≤ 4398046511104)) <;> rfl) (by
    unfold slices_IndexFunc_int64_int64_convoy_sane_1_l1
    simp)]
  simp only [Option.bind_some, idxI_any, Option.some.injEq, saneM]
  rw [Bool.eq_iff_iff]
  simp [List.all_eq_true, List.any_eq_false]
theorem ref09_sane_eq (l : List Int) (hl : l.length ≤ 1000000000) : ref09_sane l = some (saneM l) := by
  have key : ∀ (r : List Int) (i : Nat), l.drop i = r → loop (ref09_sane_l1 l) (i : Int) = some (if r.all sane1 then .inl () else .inr false) := by
    intro r
    induction r with
    | nil =>
      intro i hi
      have := drop_nil hi
      refine loop_out ?_
      unfold ref09_sane_l1
      rw [show decide ((i : Int) < (l.length : Int)) = false from decide_eq_false (by omega)]
      rfl
    | cons a r ih =>
      intro i hi
      have hlt := drop_lt hi
      have hs : ref09_sane_l1 l (i : Int) = some (if sane1 a then .go ((i : Int) + 1) else .out (.inr false)) := by
        unfold ref09_sane_l1
        rw [show decide ((i : Int) < (l.length : Int)) = true from decide_eq_true (by omega), geti_drop hi, w64_id (by omega)]
        simp only [cond_true, Option.bind_some, cond_some]
        unfold sane1
        by_cases h1 : a < -4398046511104
        · rw [show decide (a < -4398046511104) = true from decide_eq_true h1, show decide (-4398046511104 ≤ a) = false from decide_eq_false (by omega)]; rfl
        · rw [show decide (a < -4398046511104) = false from decide_eq_false h1, show decide (-4398046511104 ≤ a) = true from decide_eq_true (by omega)]
          simp only [Bool.not_false, cond_true, Bool.false_or, Bool.true_and]
          by_cases h2 : a > 4398046511104
          · rw [show decide (a > 4398046511104) = true from decide_eq_true h2, show decide (a ≤ 4398046511104) = false from decide_eq_false (by omega)]; rfl
          · rw [show decide (a > 4398046511104) = false from decide_eq_false h2, show decide (a ≤ 4398046511104) = true from decide_eq_true (by omega)]; rfl
      by_cases hp : sane1 a = true
      · rw [if_pos hp] at hs
        rw [loop_go hs, show ((i : Int) + 1) = ((i + 1 : Nat) : Int) by omega, ih (i + 1) (drop_succ hi), List.all_cons, hp, Bool.true_and]
      · rw [if_neg hp] at hs
        rw [loop_out hs, List.all_cons, show sane1 a = false by simpa using hp]; rfl
  unfold ref09_sane
  have := key l 0 rfl
  rw [show ((0 : Nat) : Int) = 0 from rfl] at this
  rw [this]
  unfold saneM
  cases l.all sane1 <;> rfl
theorem sane1_iff {n : Int} : sane1 n = true ↔ -4398046511104 ≤ n ∧ n ≤ 4398046511104 := by simp [sane1]

/-! ### The way to stop -/
def stopM (v : Int) : Int := if v < 1 then 0 else (min v 1000000 - 1) / 90 * min v 1000000 - 90 * ((min v 1000000 - 1) / 90 * ((min v 1000000 - 1) / 90 + 1) / 2)
theorem tri_even (n : Int) : ∃ k, n * (n + 1) = 2 * k := by
  have : n % 2 = 0 ∨ n % 2 = 1 := by omega
  rcases this with h | h
  · obtain ⟨m, rfl⟩ : ∃ m, n = 2 * m := ⟨n / 2, by omega⟩
    exact ⟨m * (2 * m + 1), Int.mul_assoc _ _ _⟩
  · obtain ⟨m, rfl⟩ : ∃ m, n = 2 * m + 1 := ⟨n / 2, by omega⟩
    exact ⟨(2 * m + 1) * (m + 1), by rw [show 2 * m + 1 + 1 = 2 * (m + 1) by omega, Int.mul_left_comm]⟩
theorem nn_bd {n : Int} (h0 : 0 ≤ n) (h1 : n ≤ 11112) : 0 ≤ n * (n + 1) ∧ n * (n + 1) ≤ 200000000 := by
  refine ⟨Int.mul_nonneg h0 (by omega), ?_⟩
  have := Int.mul_le_mul h1 (show n + 1 ≤ 11113 by omega) (by omega) (by decide)
  omega
theorem convoy_stop_eq (v : Int) : convoy_stop v = some (stopM v) := by
  unfold convoy_stop world_Stop stopM
  by_cases h : v < 1
  · simp [h]
  · rw [show decide (v < 1) = false from decide_eq_false h, if_neg h]
    simp only [Bool.false_or, show decide ((90 : Int) < 1) = false from rfl, cond_false, mm2_min]
    generalize hw : min v 1000000 = w
    have w1 : 1 ≤ w ∧ w ≤ 1000000 := by omega
    rw [w64_id (n := w - 1) (by omega), show min (90 : Int) 1000000 = 90 from rfl]
    unfold quoc
    rw [if_neg (by decide), Int.tdiv_eq_ediv_of_nonneg (by omega)]
    generalize hn : (w - 1) / 90 = n
    have n1 : 0 ≤ n ∧ n ≤ 11112 := by omega
    have t := nn_bd n1.1 n1.2
    have m1 : 0 ≤ n * w ∧ n * w ≤ 11112000000 := by
      refine ⟨Int.mul_nonneg n1.1 (by omega), ?_⟩
      have := Int.mul_le_mul n1.2 w1.2 (by omega) (by decide)
      omega
    simp only [Option.bind_some]
    rw [show IntKind.i64.wrap n = n from w64_id (by omega), w64_id (n := n * w) (by omega), w64_id (n := n + 1) (by omega), w64_id (n := n * (n + 1)) (by omega), Int.tdiv_eq_ediv_of_nonneg t.1, w64_id (n := n * (n + 1) / 2) (by omega), w64_id (n := 90 * (n * (n + 1) / 2)) (by omega), w64_id (by omega)]
theorem stopM_small {v : Int} (h : v ≤ 90) : stopM v = 0 := by
  unfold stopM
  split
  · rfl
  · rw [show (min v 1000000 - 1) / 90 = 0 by omega]; simp
theorem stopM_step {v : Int} (h : 90 < v) (h1 : v ≤ 1000000) : stopM v = v - 90 + stopM (v - 90) := by
  unfold stopM
  rw [if_neg (by omega)]
  by_cases h2 : v - 90 < 1
  · omega
  · rw [if_neg h2, show min v 1000000 = v by omega, show min (v - 90) 1000000 = v - 90 by omega, show (v - 90 - 1) / 90 = (v - 1) / 90 - 1 by omega]
    generalize (v - 1) / 90 = n
    obtain ⟨k, hk⟩ := tri_even n
    have e2 : (n - 1) * (n - 1 + 1) = 2 * (k - n) := by
      have : (n - 1) * (n - 1 + 1) = n * (n + 1) - 2 * n := by grind
      rw [this, hk]; omega
    rw [hk, e2, Int.mul_ediv_cancel_left k (by decide), Int.mul_ediv_cancel_left (k - n) (by decide)]
    have : (n - 1) * (v - 90) = n * v - 90 * n - v + 90 := by grind
    rw [this]
    omega
theorem stopM_nonneg (v : Int) : 0 ≤ stopM v ∧ stopM v ≤ 11112000000 := by
  unfold stopM
  split
  · omega
  · generalize hw : min v 1000000 = w
    have w1 : 1 ≤ w ∧ w ≤ 1000000 := by omega
    generalize hn : (w - 1) / 90 = n
    have n1 : 0 ≤ n ∧ n ≤ 11112 := by omega
    have t := nn_bd n1.1 n1.2
    have m1 : n * w ≤ 11112000000 := by
      have := Int.mul_le_mul n1.2 w1.2 (by omega) (by decide)
      omega
    have m2 : n * (90 * n + 1) ≤ n * w := Int.mul_le_mul_of_nonneg_left (by omega) n1.1
    have m3 : n * (90 * n + 1) = 90 * (n * n) + n := by grind
    have m5 : n * (n + 1) = n * n + n := by grind
    have m4 : n ≤ n * n := by
      rcases (show n = 0 ∨ 1 ≤ n by omega) with h | h
      · rw [h]; decide
      · have := Int.mul_le_mul_of_nonneg_left h n1.1
        omega
    omega
end Go.Abs.Convoyz

namespace Go.Abs.Convoyz
open Go Go.Abs

theorem ref04_loop : ∀ (m : Nat) (v n : Int), v ≤ 90 + 90 * m → v ≤ 1000000 → -9000000000000 ≤ v → 0 ≤ n → n + 1000000 * m ≤ 100000000000 → loop (ref04_Stop_l1 90) (v, n) = some (n + stopM v) := by
  intro m
  induction m with
  | zero =>
    intro v n h _ _ _ _
    refine loop_out ?_
    unfold ref04_Stop_l1
    rw [mm2_min, show min (90 : Int) 1000000 = 90 from rfl, show decide (v > 90) = false from decide_eq_false (by omega), stopM_small (by omega), Int.add_zero]
    rfl
  | succ m ih =>
    intro v n h h1 h2 h3 h4
    by_cases hv : v > 90
    · have hs : ref04_Stop_l1 90 (v, n) = some (.go (v - 90, n + (v - 90))) := by
        unfold ref04_Stop_l1
        rw [mm2_min, show min (90 : Int) 1000000 = 90 from rfl, show decide (v > 90) = true from decide_eq_true hv]
        dsimp only
        rw [w64_id (n := v - 90) (by omega), w64_id (n := n + (v - 90)) (by omega)]
        rfl
      rw [loop_go hs, ih _ _ (by omega) (by omega) (by omega) (by omega) (by omega), stopM_step hv h1]
      congr 1; omega
    · refine loop_out ?_
      unfold ref04_Stop_l1
      rw [mm2_min, show min (90 : Int) 1000000 = 90 from rfl, show decide (v > 90) = false from decide_eq_false hv, stopM_small (by omega), Int.add_zero]
      rfl
theorem stopM_min (v : Int) : stopM (min v 1000000) = stopM v := by
  unfold stopM
  rw [show min (min v 1000000) 1000000 = min v 1000000 by omega]
  by_cases h : v < 1
  · rw [if_pos (by omega), if_pos h]
  · rw [if_neg (by omega), if_neg h]
theorem ref09_stop_eq (v : Int) : ref09_stop v = some (stopM v) := by
  unfold ref09_stop ref04_Stop
  rw [mm2_min, mm2_min, show min (90 : Int) 1000000 = 90 from rfl]
  by_cases h : v < 1
  · rw [show decide (min v 1000000 < 1) = true from decide_eq_true (by omega), stopM_small (by omega)]
    rfl
  · rw [show decide (min v 1000000 < 1) = false from decide_eq_false (by omega), show decide ((90 : Int) < 1) = false from rfl]
    simp only [Bool.or_self, cond_false]
    rw [ref04_loop 11111 (min v 1000000) 0 (by omega) (by omega) (by omega) (by omega) (by omega), stopM_min]
    simp
theorem saneM2 {a b : Int} (h : saneM [a, b] = true) : (-4398046511104 ≤ a ∧ a ≤ 4398046511104) ∧ -4398046511104 ≤ b ∧ b ≤ 4398046511104 := by
  simpa [saneM, sane1_iff] using h
theorem saneM4 {a b c d : Int} (h : saneM [a, b, c, d] = true) : (-4398046511104 ≤ a ∧ a ≤ 4398046511104) ∧ (-4398046511104 ≤ b ∧ b ≤ 4398046511104) ∧ (-4398046511104 ≤ c ∧ c ≤ 4398046511104) ∧ -4398046511104 ≤ d ∧ d ≤ 4398046511104 := by
  simpa [saneM, sane1_iff] using h
theorem saneM5 {a b c d e : Int} (h : saneM [a, b, c, d, e] = true) : (-4398046511104 ≤ a ∧ a ≤ 4398046511104) ∧ (-4398046511104 ≤ b ∧ b ≤ 4398046511104) ∧ (-4398046511104 ≤ c ∧ c ≤ 4398046511104) ∧ (-4398046511104 ≤ d ∧ d ≤ 4398046511104) ∧ -4398046511104 ≤ e ∧ e ≤ 4398046511104 := by
  simpa [saneM, sane1_iff] using h
/-- Where the one of a guess comes to a standstill at least. -/
def endM (g : Guess) : Int := g.R + stopM g.V
theorem convoy_end_eq {g : Guess} (h : -4398046511104 ≤ g.R ∧ g.R ≤ 4398046511104) : convoy_end g = some (endM g) := by
  unfold convoy_end
  have := stopM_nonneg g.V
  rw [convoy_stop_eq, Option.bind_some, w64_id (by omega)]; rfl
def betterM (g h : Guess) : Guess := if saneM [g.R, g.V, h.R, h.V] then (if g.R ≤ h.R ∧ endM g ≤ endM h then h else g) else ⟨0, 0⟩
theorem convoy_Better_eq (g h : Guess) : convoy_Better g h = some (betterM g h) := by
  unfold convoy_Better betterM
  rw [convoy_sane_eq _ (by simp), Option.bind_some]
  cases hs : saneM [g.R, g.V, h.R, h.V]
  · simp
  · have b := saneM4 hs
    rw [convoy_end_eq b.1, convoy_end_eq b.2.2.1]
    by_cases hr : g.R ≤ h.R
    · rw [show decide (h.R ≥ g.R) = true from decide_eq_true hr]
      simp only [Bool.not_true, cond_false, cond_true, Option.bind_some, Bool.true_and, if_true, hr, true_and, ge_iff_le, cond_if]
      split <;> rfl
    · rw [show decide (h.R ≥ g.R) = false from decide_eq_false hr]
      simp [hr]
theorem ref09_Better_eq (g h : Guess) : ref09_Better g h = some (betterM g h) := by
  unfold ref09_Better betterM
  rw [ref09_sane_eq _ (by simp), Option.bind_some]
  cases hs : saneM [g.R, g.V, h.R, h.V]
  · simp
  · have b := saneM4 hs
    have := stopM_nonneg h.V
    have := stopM_nonneg g.V
    rw [ref09_stop_eq, ref09_stop_eq]
    by_cases hr : g.R ≤ h.R
    · rw [show decide (h.R ≥ g.R) = true from decide_eq_true hr]
      simp only [Bool.not_true, cond_false, cond_true, Option.bind_some, Bool.true_and, if_true, hr, true_and]
      rw [w64_id (by omega), w64_id (by omega)]
      show cond (decide (endM g ≤ endM h)) (some h) (some g) = _
      rw [cond_if]
      split <;> rfl
    · rw [show decide (h.R ≥ g.R) = false from decide_eq_false hr]
      simp [hr]
def safeM (s v gap : Int) (g : Guess) : Bool := saneM [s, v, gap, g.R, g.V] && decide (s ≤ g.R - gap) && decide (s + stopM v ≤ endM g - gap)
theorem convoy_Safe_eq (s v gap : Int) (g : Guess) : convoy_Safe s v gap g = some (safeM s v gap g) := by
  unfold convoy_Safe safeM
  rw [convoy_sane_eq _ (by simp), Option.bind_some]
  cases hs : saneM [s, v, gap, g.R, g.V]
  · simp
  · have b := saneM5 hs
    have := stopM_nonneg v
    have := stopM_nonneg g.V
    rw [w64_id (n := g.R - gap) (by omega), convoy_end_eq b.2.2.2.1, convoy_stop_eq]
    by_cases hr : s ≤ g.R - gap
    · rw [show decide (s ≤ g.R - gap) = true from decide_eq_true hr]
      simp only [Bool.and_self, cond_true, Option.bind_some]
      rw [w64_id (by omega), w64_id (by unfold endM; omega)]
    · rw [show decide (s ≤ g.R - gap) = false from decide_eq_false hr]
      simp
theorem ref09_Safe_eq (s v gap : Int) (g : Guess) : ref09_Safe s v gap g = some (safeM s v gap g) := by
  unfold ref09_Safe safeM
  rw [ref09_sane_eq _ (by simp), Option.bind_some]
  cases hs : saneM [s, v, gap, g.R, g.V]
  · simp
  · have b := saneM5 hs
    have := stopM_nonneg v
    have := stopM_nonneg g.V
    rw [w64_id (n := g.R - gap) (by omega), ref09_stop_eq, ref09_stop_eq]
    by_cases hr : s ≤ g.R - gap
    · rw [show decide (s ≤ g.R - gap) = true from decide_eq_true hr]
      simp only [Bool.and_self, cond_true, Option.bind_some]
      rw [w64_id (n := s + _) (by omega), w64_id (n := g.R + _) (by omega), w64_id (by omega)]; rfl
    · rw [show decide (s ≤ g.R - gap) = false from decide_eq_false hr]
      simp
/-- Ticks in which the one of a guess brakes. -/
def ageN : Nat → Guess → Guess
  | 0, g => g
  | n + 1, g => ageN n ⟨g.R + max 0 (g.V - 90), max 0 (g.V - 90)⟩
def ageM (g : Guess) (n : Int) : Guess := if saneM [g.R, g.V] then ageN (max 0 (min n 30)).toNat g else ⟨0, 0⟩
theorem age_loop (n : Int) : ∀ (k : Nat) (i : Nat) (g : Guess), (i : Int) + k = max 0 (min n 30) → (-4398046511104 ≤ g.V ∧ g.V ≤ 4398046511104) → (-4398046511104 * (1 + i) ≤ g.R ∧ g.R ≤ 4398046511104 * (1 + i)) → loop (convoy_Age_l1 n) ((i : Int), g) = some (ageN k g) ∧ loop (ref09_Age_l1 n) ((i : Int), g) = some (ageN k g) := by
  intro k
  induction k with
  | zero =>
    intro i g h _ _
    constructor
    · refine loop_out ?_
      unfold convoy_Age_l1
      rw [mm2_max, mm2_min, show decide ((i : Int) < max 0 (min n 30)) = false from decide_eq_false (by omega)]; rfl
    · refine loop_out ?_
      unfold ref09_Age_l1
      by_cases h1 : (i : Int) < n
      · rw [show decide ((i : Int) < 30) = false from decide_eq_false (by omega), Bool.and_false]; rfl
      · rw [show decide ((i : Int) < n) = false from decide_eq_false h1, Bool.false_and]; rfl
  | succ k ih =>
    intro i g h hv hr
    have hb : w64 (g.V - 90) = g.V - 90 := w64_id (by omega)
    have hi : (i : Int) < 30 := by omega
    have hrr : w64 (g.R + max 0 (g.V - 90)) = g.R + max 0 (g.V - 90) := w64_id (by omega)
    have s1 : convoy_Age_l1 n ((i : Int), g) = some (.go (((i + 1 : Nat) : Int), ⟨g.R + max 0 (g.V - 90), max 0 (g.V - 90)⟩)) := by
      unfold convoy_Age_l1
      rw [mm2_max, mm2_min, show decide ((i : Int) < max 0 (min n 30)) = true from decide_eq_true (by omega)]
      dsimp only
      rw [hb, mm2_max, hrr, w64_id (by omega)]; rfl
    have s2 : ref09_Age_l1 n ((i : Int), g) = some (.go (((i + 1 : Nat) : Int), ⟨g.R + max 0 (g.V - 90), max 0 (g.V - 90)⟩)) := by
      unfold ref09_Age_l1
      rw [show decide ((i : Int) < n) = true from decide_eq_true (by omega), show decide ((i : Int) < 30) = true from decide_eq_true hi]
      dsimp only
      rw [hb, mm2_max, hrr, w64_id (by omega)]; rfl
    rw [loop_go s1, loop_go s2, ageN]
    exact ih (i + 1) _ (by omega) (by dsimp only; omega) (by dsimp only; omega)
theorem Age_eq (g : Guess) (n : Int) : convoy_Age g n = some (ageM g n) ∧ ref09_Age g n = some (ageM g n) := by
  unfold convoy_Age ref09_Age ageM
  rw [convoy_sane_eq _ (by simp), ref09_sane_eq _ (by simp), Option.bind_some, Option.bind_some]
  cases hs : saneM [g.R, g.V]
  · exact ⟨rfl, rfl⟩
  · have b := saneM2 hs
    obtain ⟨h1, h2⟩ := age_loop n (max 0 (min n 30)).toNat 0 g (by omega) b.2 (by omega)
    rw [show ((0 : Nat) : Int) = 0 from rfl] at h1 h2
    simp only [Bool.not_true, cond_false, h1, h2, Option.bind_some, if_true, and_self]
end Go.Abs.Convoyz

namespace Go.Abs.Convoyz
open Go Go.Abs

theorem kit_Mod_eq {n m : Int} (hm : 0 < m) (hm2 : m ≤ 9223372036854775807) : kit_Mod n m = some (n % m) ∧ kit_Mod64 n m = some (n % m) := by
  have h1 : kit_Mod64 n m = some (n % m) := by
    unfold kit_Mod64 remc
    rw [if_neg (by omega), Option.bind_some, Int.tmod_eq_emod]
    have := Int.emod_nonneg n (show m ≠ 0 by omega)
    have := Int.emod_lt_of_pos n hm
    split
    · rw [show decide (n % m - ((0 : Nat) : Int) < 0) = false from decide_eq_false (by omega)]
      simp
    · rename_i h
      have hne : n % m ≠ 0 := fun e => h (.inr (Int.dvd_of_emod_eq_zero e))
      rw [show ((m.natAbs : Nat) : Int) = m by omega, show decide (n % m - m < 0) = true from decide_eq_true (by omega), cond_true, w64_id (by omega)]
      congr 1; omega
  exact ⟨h1, h1⟩
theorem stopM_mono : ∀ (k : Nat) {v w : Int}, w ≤ 90 + 90 * k → v ≤ w → w ≤ 1000000 → stopM v ≤ stopM w
  | 0, v, w, h, hv, _ => by rw [stopM_small (by omega), stopM_small (by omega)]; omega
  | k + 1, v, w, h, hv, hw => by
    by_cases h1 : 90 < v
    · rw [stopM_step h1 (by omega), stopM_step (show 90 < w by omega) hw]
      have := stopM_mono k (show w - 90 ≤ 90 + 90 * k by omega) (show v - 90 ≤ w - 90 by omega) (by omega)
      omega
    · rw [stopM_small (by omega)]; exact (stopM_nonneg w).1
theorem stop_mono {v w : Int} (hv : v ≤ w) (hw : w ≤ 1000000) : stopM v ≤ stopM w := stopM_mono 11111 (by omega) hv hw
/-- One guess is below another one. -/
def Lower (g h : Guess) : Prop := g.R ≤ h.R ∧ endM g ≤ endM h
theorem sane5 {a b c d e : Int} (h : (-4398046511104 ≤ a ∧ a ≤ 4398046511104) ∧ (-4398046511104 ≤ b ∧ b ≤ 4398046511104) ∧ (-4398046511104 ≤ c ∧ c ≤ 4398046511104) ∧ (-4398046511104 ≤ d ∧ d ≤ 4398046511104) ∧ -4398046511104 ≤ e ∧ e ≤ 4398046511104) : saneM [a, b, c, d, e] = true := by
  simp [saneM, sane1_iff]; omega
theorem safeM_iff {s v gap : Int} {g : Guess} (h : saneM [s, v, gap, g.R, g.V] = true) : safeM s v gap g = true ↔ Lower ⟨s + gap, v⟩ g := by
  unfold safeM
  rw [h]
  simp only [Bool.true_and, Bool.and_eq_true, decide_eq_true_eq]
  unfold Lower endM
  dsimp only
  constructor <;> rintro ⟨h1, h2⟩ <;> constructor <;> omega
theorem Lower.trans {a b c : Guess} (h : Lower a b) (h' : Lower b c) : Lower a c := ⟨Int.le_trans h.1 h'.1, Int.le_trans h.2 h'.2⟩
end Go.Abs.Convoyz

namespace Go.Abs.Convoyz
open Go Go.Abs

theorem and_cond (c b d : Bool) : (c && cond c b d) = (c && b) := by cases c <;> rfl
def within (n a b : Int) : Bool := decide (a ≤ n) && decide (n ≤ b)
theorem convoy_within_eq (n a b : Int) : convoy_within n a b = some (within n a b) := rfl
theorem ref09_between_eq (n a b : Int) : ref09_between n a b = some (within n a b) := rfl
def bodyM (id s v l : Int) : Bool := within id 1 99 && (within s 0 1099511627776 && (within v 0 2000 && within l 300 20000))
def guessM (g : Guess) : Bool := within g.R (-20000) 2199023255552 && within g.V 0 2000
def mateM (m : Mate) : Bool := bodyM m.ID m.S m.V m.Len && (within m.Ahead 0 99 && (within m.Ward 0 99 && (within m.Until 0 2199023255552 && (guessM m.Guess_ && guessM m.WardGuess))))
def guestM (g : Guest) : Bool := bodyM g.ID g.S g.V g.Len && (within g.Ahead 0 99 && (within g.From 0 99 && (within g.Until 0 2199023255552 && (within g.End 0 1099511627776 && guessM g.Guess_))))
def noGuest (g : Guest) : Bool := g.ID == 0 && (g.S == 0 && (g.V == 0 && (g.Len == 0 && (g.End == 0 && (g.Ahead == 0 && (g.Guess_.R == 0 && (g.Guess_.V == 0 && (g.From == 0 && (g.Until == 0 && true)))))))))
theorem fairBody_eq (id s v l : Int) : convoy_fairBody id s v l = some (bodyM id s v l) := by
  unfold convoy_fairBody bodyM
  simp only [convoy_within_eq, cond_some, Option.bind_some, and_cond]
  simp only [within, ge_iff_le, Bool.and_assoc]
theorem moving_eq (id s v l : Int) : ref09_moving id s v l = some (bodyM id s v l) := by
  unfold ref09_moving bodyM
  simp only [ref09_between_eq, cond_some, Option.bind_some, and_cond]
  simp only [Bool.and_assoc]
theorem fairGuess_eq (g : Guess) : convoy_fairGuess g = some (guessM g) := by
  unfold convoy_fairGuess guessM
  simp only [convoy_within_eq, cond_some, Option.bind_some, and_cond]
theorem guessed_eq (g : Guess) : ref09_guessed g = some (guessM g) := by
  unfold ref09_guessed guessM
  simp only [ref09_between_eq, cond_some, Option.bind_some, and_cond]
theorem fairID_eq (n : Int) : convoy_fairID n = some (within n 0 99) := rfl
theorem fairMate_eq (m : Mate) : convoy_fairMate m = some (mateM m) := by
  unfold convoy_fairMate mateM
  simp only [convoy_within_eq, fairBody_eq, fairGuess_eq, fairID_eq, cond_some, Option.bind_some, and_cond]
  simp only [Bool.and_assoc]
theorem ref09_mate_eq (m : Mate) : ref09_mate m = some (mateM m) := by
  unfold ref09_mate mateM
  simp only [ref09_between_eq, moving_eq, guessed_eq, cond_some, Option.bind_some, and_cond]
  simp only [Bool.and_assoc]
theorem fairGuest_eq (g : Guest) : convoy_fairGuest g = some (noGuest g || guestM g) := by
  unfold convoy_fairGuest guestM
  simp only [convoy_within_eq, fairBody_eq, fairGuess_eq, fairID_eq, cond_some, Option.bind_some, and_cond]
  cases h : (g.ID == 0)
  · have : noGuest g = false := by unfold noGuest; rw [h]; rfl
    rw [this]
    simp only [cond_false, Bool.false_or, Bool.and_assoc]
  · have : bodyM g.ID g.S g.V g.Len = false := by
      have e : g.ID = 0 := by simpa using h
      unfold bodyM within; rw [e]; rfl
    rw [this]
    simp only [cond_true, Bool.false_and, Bool.or_false]
    unfold noGuest; rw [h]
theorem ref09_guest_eq (g : Guest) : ref09_guest g = some (guestM g) := by
  unfold ref09_guest guestM
  simp only [ref09_between_eq, moving_eq, guessed_eq, cond_some, Option.bind_some, and_cond]
  simp only [Bool.and_assoc]

/-! ### Loops that look for what is bad -/
def anyI {α : Type} (P : Nat → α → Bool) : Nat → List α → Bool
  | _, [] => false
  | i, a :: r => P i a || anyI P (i + 1) r
theorem scan {α τ : Type} {f : Int → Option (Stp Int (Sum Unit τ))} (l : List α) (P : Nat → α → Bool) (e : τ) (hl : l.length ≤ 1000000000) (k : Nat) (hf : ∀ (i : Nat) a, k ≤ i → l[i]? = some a → f (i : Int) = some (if P i a then .out (.inr e) else .go (w64 ((i : Int) + 1)))) (he : f (l.length : Int) = some (.out (.inl ()))) (hk : k ≤ l.length) :
    loop f (k : Int) = some (if anyI P k (l.drop k) then .inr e else .inl ()) := by
  have key : ∀ (r : List α) (i : Nat), l.drop i = r → k ≤ i → i ≤ l.length → loop f (i : Int) = some (if anyI P i r then .inr e else .inl ()) := by
    intro r
    induction r with
    | nil =>
      intro i hi _ hil
      have := drop_nil hi
      obtain rfl : i = l.length := by omega
      rw [loop_out he]; rfl
    | cons a r ih =>
      intro i hi hki _
      have hlt := drop_lt hi
      have h0 : l[i]? = some a := by have := congrArg (fun z => z[0]?) hi; simpa using this
      have hs := hf i a hki h0
      rw [anyI]
      cases hp : P i a
      · rw [hp] at hs
        simp only [Bool.false_eq_true, if_false] at hs
        rw [w64_id (by omega)] at hs
        rw [loop_go hs, show ((i : Int) + 1) = ((i + 1 : Nat) : Int) by omega, ih (i + 1) (drop_succ hi) (by omega) (by omega), Bool.false_or]
      · rw [hp] at hs
        rw [loop_out hs]; rfl
  exact key _ k rfl (Nat.le_refl _) hk
theorem anyI_any {α : Type} (P : α → Bool) : ∀ (l : List α) (i : Nat), anyI (fun _ => P) i l = l.any P
  | [], _ => rfl
  | a :: r, i => by rw [anyI, anyI_any P r, List.any_cons]
theorem contains_numbers (l : List Mate) (hl : l.length ≤ 1000000000) : slices_ContainsFunc_Mate_Mate_convoy_numbers_1 l = some (l.any fun m => !mateM m) := by
  unfold slices_ContainsFunc_Mate_Mate_convoy_numbers_1 slices_IndexFunc_Mate_Mate_convoy_numbers_1
  rw [index_eq l (fun m => !mateM m) hl (fun i a h => by
    have := get_lt h
    unfold slices_IndexFunc_Mate_Mate_convoy_numbers_1_l1 convoy_numbers_1
    rw [show decide ((i : Int) < (l.length : Int)) = true from decide_eq_true (by omega), geti_some h]
    simp only [cond_true, Option.bind_some, fairMate_eq]
    cases mateM a <;> rfl) (by
    unfold slices_IndexFunc_Mate_Mate_convoy_numbers_1_l1
    simp)]
  simp only [Option.bind_some, idxI_any]
/-- The error of the numbers. -/
def numM (c : Convoy) : Int := if !within c.Tick 0 1099511627776 || !within c.Gap 1 20000 then 2 else if c.Mates.length = 0 then 6 else if c.Mates.length + (if noGuest c.Guest_ then 0 else 1) > 8 then 8 else if (c.Mates.any fun m => !mateM m) || !(noGuest c.Guest_ || guestM c.Guest_) then 2 else 0
theorem many_eq (c : Convoy) (hl : c.Mates.length ≤ 1000000) : (cond (!(noGuest c.Guest_)) (some (w64 ((c.Mates.length : Int) + 1))) (some (c.Mates.length : Int))) = some (((c.Mates.length + (if noGuest c.Guest_ then 0 else 1) : Nat)) : Int) := by
  cases noGuest c.Guest_
  · simp only [Bool.not_false, cond_true]; rw [w64_id (by omega)]; rfl
  · rfl
theorem convoy_numbers_eq (c : Convoy) (hl : c.Mates.length ≤ 1000000) : convoy_numbers c = some (numM c) := by
  unfold convoy_numbers numM
  have hm := many_eq c hl
  unfold noGuest at hm
  rw [hm, Option.bind_some]
  clear hm
  change _ = some (if !within c.Tick 0 1099511627776 || !within c.Gap 1 20000 then 2 else if c.Mates.length = 0 then 6 else if c.Mates.length + (if noGuest c.Guest_ then 0 else 1) > 8 then 8 else if (c.Mates.any fun m => !mateM m) || !(noGuest c.Guest_ || guestM c.Guest_) then 2 else 0)
  change ((convoy_within c.Tick 0 1099511627776).bind fun v1 => ((cond (!(!v1)) (convoy_within c.Gap 1 20000) (some default))).bind fun v2 => cond ((!v1) || (!v2)) (some 2) (cond ((c.Mates.length : Int) == 0) (some 6) (cond (decide (((c.Mates.length + (if noGuest c.Guest_ then 0 else 1) : Nat) : Int) > 8)) (some 8) ((slices_ContainsFunc_Mate_Mate_convoy_numbers_1 c.Mates).bind fun v3 => ((cond (!v3) (convoy_fairGuest c.Guest_) (some default))).bind fun v4 => cond (v3 || (!v4)) (some 2) (some 0))))) = _
  simp only [convoy_within_eq, Bool.not_not, Option.bind_some, cond_some, contains_numbers c.Mates (by omega), fairGuest_eq]
  have e1 : (!within c.Tick 0 1099511627776 || !(cond (within c.Tick 0 1099511627776) (within c.Gap 1 20000) default)) = (!within c.Tick 0 1099511627776 || !within c.Gap 1 20000) := by cases within c.Tick 0 1099511627776 <;> rfl
  have e2 : ∀ a b d : Bool, (a || !(cond (!a) b d)) = (a || !b) := by intro a b d; cases a <;> rfl
  rw [e1, e2]
  generalize (!within c.Tick 0 1099511627776 || !within c.Gap 1 20000) = b1
  generalize ((c.Mates.any fun m => !mateM m) || !(noGuest c.Guest_ || guestM c.Guest_)) = b2
  cases b1
  · simp only [cond_false, Bool.false_eq_true, if_false]
    by_cases h0 : c.Mates.length = 0
    · rw [h0]; rfl
    · rw [show ((c.Mates.length : Int) == 0) = false by simpa using h0, if_neg h0]
      simp only [cond_false]
      by_cases h8 : c.Mates.length + (if noGuest c.Guest_ then 0 else 1) > 8
      · rw [if_pos h8, show decide (((c.Mates.length + (if noGuest c.Guest_ then 0 else 1) : Nat) : Int) > 8) = true from decide_eq_true (by omega)]; rfl
      · rw [if_neg h8, show decide (((c.Mates.length + (if noGuest c.Guest_ then 0 else 1) : Nat) : Int) > 8) = false from decide_eq_false (by omega)]
        cases b2 <;> rfl
  · rfl
end Go.Abs.Convoyz

namespace Go.Abs.Convoyz
open Go Go.Abs

/-! ### IDs, the order, states, clashes -/
def dupP (c : Convoy) (i : Nat) (m : Mate) : Bool := (c.Mates.take i).any (fun k => k.ID == m.ID) || m.ID == c.Guest_.ID
def ordP (c : Convoy) (i : Nat) (m : Mate) : Bool := decide (0 < i) && (match c.Mates[i - 1]? with | some k => decide (w64 (k.S - k.Len) ≤ m.S) | none => false)
def staP (i : Nat) (m : Mate) : Bool := ((i == 0) && m.Ahead != 0) || ((decide (0 < i) && m.Ahead == 0) && m.Until == 0) || (m.Ward == 0 && m.Until != 0)
def keepM (gap : Int) (m : Mate) (s v : Int) (g w : Guess) : Bool := (m.Ahead == 0 || safeM s v gap g) && (m.Until == 0 || safeM s v gap w)
def guestBad (c : Convoy) : Bool := (c.Guest_.ID != 0) && decide (c.Guest_.End ≤ w64 (c.Guest_.S + stopM c.Guest_.V))
def ordM (c : Convoy) : Int := if anyI (dupP c) 0 c.Mates then 9 else if anyI (ordP c) 0 c.Mates then 11 else 0
theorem mem_insm (ks : List Int) (n m : Int) : (insm ks n).contains m = (ks.contains m || m == n) := by
  unfold insm
  rw [Bool.eq_iff_iff]
  split
  · rename_i h
    simp only [List.contains_eq_mem, decide_eq_true_eq, Bool.or_eq_true, beq_iff_eq]
    constructor
    · exact .inl
    · rintro (q | rfl)
      · exact q
      · exact h
  · simp
theorem orders_l1 (c : Convoy) (hl : c.Mates.length ≤ 1000000) : ∀ (r : List Mate) (i : Nat) (ks : List Int), c.Mates.drop i = r → (∀ m, ks.contains m = ((c.Mates.take i).any (fun k => k.ID == m) || m == c.Guest_.ID)) → loop (convoy_orders_l1 c) ((i : Int), ks) = some (if anyI (dupP c) i r then .inr 9 else .inl ()) := by
  intro r
  induction r with
  | nil =>
    intro i ks hi _
    have := drop_nil hi
    refine loop_out ?_
    unfold convoy_orders_l1
    rw [show decide ((i : Int) < (c.Mates.length : Int)) = false from decide_eq_false (by omega)]; rfl
  | cons a r ih =>
    intro i ks hi hks
    have hlt := drop_lt hi
    have hd : ks.contains a.ID = dupP c i a := hks a.ID
    have hs : convoy_orders_l1 c ((i : Int), ks) = some (if dupP c i a then .out (.inr 9) else .go (((i + 1 : Nat) : Int), insm ks a.ID)) := by
      unfold convoy_orders_l1
      rw [show decide ((i : Int) < (c.Mates.length : Int)) = true from decide_eq_true (by omega)]
      dsimp only
      rw [geti_drop hi, w64_id (by omega)]
      simp only [cond_true, Option.bind_some, hd]
      cases dupP c i a <;> rfl
    rw [anyI]
    cases hp : dupP c i a
    · rw [hp] at hs
      rw [loop_go hs, Bool.false_or]
      refine ih (i + 1) _ (drop_succ hi) fun m => ?_
      rw [mem_insm, hks m]
      have h0 : c.Mates[i]? = some a := by have := congrArg (fun z => z[0]?) hi; simpa using this
      rw [List.take_add_one, h0]
      simp only [List.any_append, Option.toList_some, List.any_cons, List.any_nil, Bool.or_false]
      rw [Bool.beq_comm (a := m) (b := a.ID)]
      cases (c.Mates.take i).any (fun k => k.ID == m) <;> cases (m == c.Guest_.ID) <;> cases (a.ID == m) <;> rfl
    · rw [hp] at hs
      rw [loop_out hs]; rfl
theorem convoy_rear_eq (m : Mate) : convoy_rear m = some (w64 (m.S - m.Len)) := rfl
theorem ref09_rear_eq (m : Mate) : ref09_rear m = some (w64 (m.S - m.Len)) := rfl
theorem ord_at {c : Convoy} (hl : c.Mates.length ≤ 1000000) {i : Nat} {m : Mate} (hi : 0 < i) (h : c.Mates[i]? = some m) : ∃ k, geti c.Mates (w64 ((i : Int) - 1)) = some k ∧ ordP c i m = decide (w64 (k.S - k.Len) ≤ m.S) ∧ c.Mates[i - 1]? = some k := by
  have hlt := get_lt h
  have : i - 1 < c.Mates.length := by omega
  refine ⟨c.Mates[i - 1], ?_, ?_, List.getElem?_eq_getElem this⟩
  · rw [w64_id (by omega), show (i : Int) - 1 = ((i - 1 : Nat) : Int) by omega, geti_nat this]
  · unfold ordP
    rw [List.getElem?_eq_getElem this, show decide (0 < i) = true from decide_eq_true hi, Bool.true_and]
theorem convoy_orders_eq (c : Convoy) (hl : c.Mates.length ≤ 1000000) : convoy_orders c = some (ordM c) := by
  unfold convoy_orders ordM
  have h1 := orders_l1 c hl c.Mates 0 (insm [] c.Guest_.ID) rfl (fun m => by
    rw [mem_insm]; simp)
  rw [show ((0 : Nat) : Int) = 0 from rfl] at h1
  rw [h1]
  cases anyI (dupP c) 0 c.Mates
  · have h2 := scan (f := convoy_orders_l2 c) c.Mates (ordP c) (11 : Int) (by omega) 0 (fun i a _ h => by
      have hlt := get_lt h
      unfold convoy_orders_l2
      rw [show decide ((i : Int) < (c.Mates.length : Int)) = true from decide_eq_true (by omega), geti_some h]
      simp only [cond_true, Option.bind_some]
      by_cases hi : 0 < i
      · obtain ⟨k, e1, e2, _⟩ := ord_at hl hi h
        rw [show decide ((i : Int) > 0) = true from decide_eq_true (by omega), e1, e2]
        simp only [cond_true, Option.bind_some, convoy_rear_eq, Bool.true_and, ge_iff_le]
        cases decide (w64 (k.S - k.Len) ≤ a.S) <;> rfl
      · have : ordP c i a = false := by unfold ordP; rw [show decide (0 < i) = false from decide_eq_false hi]; rfl
        rw [show decide ((i : Int) > 0) = false from decide_eq_false (by omega), this]
        rfl) (by unfold convoy_orders_l2; simp) (by omega)
    rw [show ((0 : Nat) : Int) = 0 from rfl, List.drop_zero] at h2
    simp only [Bool.false_eq_true, if_false, thenS]
    rw [h2]
    cases anyI (ordP c) 0 c.Mates <;> rfl
  · rfl
theorem ref_l3 (c : Convoy) (hl : c.Mates.length ≤ 1000000) {i : Nat} {m : Mate} (h : c.Mates[i]? = some m) : loop (ref09_numbers_l3 c (i : Int)) 0 = some (if (c.Mates.take i).any (fun k => k.ID == m.ID) then .inr 9 else .inl ()) := by
  have hlt := get_lt h
  have hlen : (c.Mates.take i).length = i := by rw [List.length_take]; omega
  have := scan (f := ref09_numbers_l3 c (i : Int)) (c.Mates.take i) (fun _ k => k.ID == m.ID) (9 : Int) (by omega) 0 (fun j a _ ha => by
    have hj := get_lt ha
    rw [hlen] at hj
    have ha' : c.Mates[j]? = some a := by rw [List.getElem?_take, if_pos hj] at ha; exact ha
    unfold ref09_numbers_l3
    rw [show decide ((j : Int) < (i : Int)) = true from decide_eq_true (by omega), geti_some ha', geti_some h]
    simp only [cond_true, Option.bind_some]
    cases (a.ID == m.ID) <;> rfl) (by
    rw [hlen]
    unfold ref09_numbers_l3; simp) (by omega)
  rw [show ((0 : Nat) : Int) = 0 from rfl, List.drop_zero, anyI_any] at this
  exact this
theorem ref09_numbers_eq (c : Convoy) (hl : c.Mates.length ≤ 1000000) : ref09_numbers c = some (if numM c ≠ 0 then numM c else if anyI (dupP c) 0 c.Mates then 9 else 0) := by
  unfold ref09_numbers
  have hm := many_eq c hl
  have h1 := scan (f := ref09_numbers_l1 c) c.Mates (fun _ m => !mateM m) (2 : Int) (by omega) 0 (fun i a _ h => by
    have hlt := get_lt h
    unfold ref09_numbers_l1
    rw [show decide ((i : Int) < (c.Mates.length : Int)) = true from decide_eq_true (by omega), geti_some h]
    simp only [cond_true, Option.bind_some, ref09_mate_eq]
    cases mateM a <;> rfl) (by unfold ref09_numbers_l1; simp) (by omega)
  have h2 := scan (f := ref09_numbers_l2 c) c.Mates (dupP c) (9 : Int) (by omega) 0 (fun i a _ h => by
    have hlt := get_lt h
    unfold ref09_numbers_l2
    rw [show decide ((i : Int) < (c.Mates.length : Int)) = true from decide_eq_true (by omega), ref_l3 c hl h, geti_some h]
    unfold dupP
    cases (c.Mates.take i).any (fun k => k.ID == a.ID)
    · simp only [cond_true, Bool.false_eq_true, if_false, thenS, Option.bind_some, Bool.false_or]
      cases (a.ID == c.Guest_.ID) <;> rfl
    · rfl) (by unfold ref09_numbers_l2; simp) (by omega)
  rw [show ((0 : Nat) : Int) = 0 from rfl, List.drop_zero] at h1 h2
  rw [anyI_any] at h1
  change ((ref09_between c.Tick 0 1099511627776).bind fun v1 => ((cond (!(!v1)) (ref09_between c.Gap 1 20000) (some default))).bind fun v2 => cond ((!v1) || (!v2)) (some 2) (cond ((c.Mates.length : Int) == 0) (some 6) ((cond (!(noGuest c.Guest_)) (some (w64 ((c.Mates.length : Int) + 1))) (some (c.Mates.length : Int))).bind fun y1 => cond (decide (y1 > 8)) (some 8) (thenS (loop (ref09_numbers_l1 c) 0) (fun _ => ((cond (!(noGuest c.Guest_)) (ref09_guest c.Guest_) (some default))).bind fun v5 => cond ((!(noGuest c.Guest_)) && (!v5)) (some 2) (thenS (loop (ref09_numbers_l2 c) 0) (fun _ => some 0) (fun r => some r))) (fun r => some r))))) = _
  rw [hm, h1, h2]
  simp only [ref09_between_eq, Bool.not_not, Option.bind_some, cond_some, ref09_guest_eq]
  have e1 : (!within c.Tick 0 1099511627776 || !(cond (within c.Tick 0 1099511627776) (within c.Gap 1 20000) default)) = (!within c.Tick 0 1099511627776 || !within c.Gap 1 20000) := by cases within c.Tick 0 1099511627776 <;> rfl
  have e2 : ∀ a b d : Bool, (!a && !(cond (!a) b d)) = (!a && !b) := by intro a b d; cases a <;> rfl
  rw [e1, e2]
  unfold numM
  generalize (!within c.Tick 0 1099511627776 || !within c.Gap 1 20000) = b1
  cases b1
  · simp only [cond_false, Bool.false_eq_true, if_false]
    by_cases h0 : c.Mates.length = 0
    · rw [h0]; rfl
    · rw [show ((c.Mates.length : Int) == 0) = false by simpa using h0, if_neg h0]
      simp only [cond_false]
      by_cases h8 : c.Mates.length + (if noGuest c.Guest_ then 0 else 1) > 8
      · rw [if_pos h8, show decide (((c.Mates.length + (if noGuest c.Guest_ then 0 else 1) : Nat) : Int) > 8) = true from decide_eq_true (by omega)]; rfl
      · rw [if_neg h8, show decide (((c.Mates.length + (if noGuest c.Guest_ then 0 else 1) : Nat) : Int) > 8) = false from decide_eq_false (by omega)]
        cases (c.Mates.any fun m => !mateM m)
        · cases noGuest c.Guest_ <;> cases guestM c.Guest_ <;> cases anyI (dupP c) 0 c.Mates <;> rfl
        · rfl
  · rfl
theorem keeps_eq (gap : Int) (m : Mate) (s v : Int) (g w : Guess) : convoy_keeps gap m s v g w = some (keepM gap m s v g w) := by
  unfold convoy_keeps keepM
  simp only [convoy_Safe_eq, cond_some, Option.bind_some]
  cases (m.Ahead == 0) <;> cases safeM s v gap g <;> cases (m.Until == 0) <;> rfl
def clashP (c : Convoy) (m : Mate) : Bool := !keepM c.Gap m m.S m.V m.Guess_ m.WardGuess
theorem contains_Check (c : Convoy) (hl : c.Mates.length ≤ 1000000) : slices_ContainsFunc_Mate_Mate_convoy_Check_1b c.Mates c = some (c.Mates.any (clashP c)) := by
  unfold slices_ContainsFunc_Mate_Mate_convoy_Check_1b slices_IndexFunc_Mate_Mate_convoy_Check_1b
  rw [index_eq c.Mates (clashP c) (by omega) (fun i a h => by
    have := get_lt h
    unfold slices_IndexFunc_Mate_Mate_convoy_Check_1b_l1 convoy_Check_1_b
    rw [show decide ((i : Int) < (c.Mates.length : Int)) = true from decide_eq_true (by omega), geti_some h]
    simp only [cond_true, Option.bind_some, keeps_eq]
    unfold clashP
    cases keepM c.Gap a a.S a.V a.Guess_ a.WardGuess <;> rfl) (by
    unfold slices_IndexFunc_Mate_Mate_convoy_Check_1b_l1
    simp)]
  simp only [Option.bind_some, idxI_any]
/-- The error of a convoy. -/
def chkM (c : Convoy) : Int := if numM c ≠ 0 then numM c else if ordM c ≠ 0 then ordM c else if anyI staP 0 c.Mates then 10 else if c.Mates.any (clashP c) || guestBad c then 12 else 0
theorem sta_eq (i : Nat) (m : Mate) : (((((i : Int) == 0) && (m.Ahead != 0)) || (((decide ((i : Int) > 0)) && (m.Until == 0)) && (m.Ahead == 0))) || ((m.Ward == 0) && (m.Until != 0))) = staP i m := by
  unfold staP
  rw [show (((i : Int) == 0) = (i == 0)) by rw [Bool.eq_iff_iff]; simp, show decide ((i : Int) > 0) = decide (0 < i) by rw [Bool.eq_iff_iff]; simp]
  cases (i == 0) <;> cases decide (0 < i) <;> cases (m.Until == 0) <;> cases (m.Ahead == 0) <;> rfl
theorem convoy_Check_eq (c : Convoy) (hl : c.Mates.length ≤ 1000000) : convoy_Check c = some (chkM c) := by
  unfold convoy_Check chkM
  rw [convoy_numbers_eq c hl, Option.bind_some]
  by_cases h1 : numM c = 0
  · rw [if_neg (by simpa using h1), show (numM c != 0) = false by simpa using h1, cond_false, convoy_orders_eq c hl, Option.bind_some]
    by_cases h2 : ordM c = 0
    · rw [if_neg (by simpa using h2), show (ordM c != 0) = false by simpa using h2, cond_false]
      have h3 := scan (f := convoy_Check_l1 c) c.Mates staP (10 : Int) (by omega) 0 (fun i a _ h => by
        have hlt := get_lt h
        unfold convoy_Check_l1
        rw [show decide ((i : Int) < (c.Mates.length : Int)) = true from decide_eq_true (by omega), geti_some h]
        simp only [cond_true, Option.bind_some]
        rw [sta_eq]
        cases staP i a <;> rfl) (by unfold convoy_Check_l1; simp) (by omega)
      rw [show ((0 : Nat) : Int) = 0 from rfl, List.drop_zero] at h3
      rw [h3]
      cases anyI staP 0 c.Mates
      · simp only [Bool.false_eq_true, if_false, thenS, contains_Check c hl, Option.bind_some, convoy_stop_eq, cond_some]
        unfold guestBad
        cases c.Mates.any (clashP c)
        · simp only [Bool.not_false, Bool.true_and, Bool.false_or]
          cases (c.Guest_.ID != 0)
          · rfl
          · simp only [cond_true, Bool.true_and, ge_iff_le]
            cases decide (c.Guest_.End ≤ w64 (c.Guest_.S + stopM c.Guest_.V)) <;> rfl
        · rfl
      · rfl
    · rw [if_pos h2, show (ordM c != 0) = true by simpa using h2]; rfl
  · rw [if_pos h1, show (numM c != 0) = true by simpa using h1]; rfl
theorem sta_eq2 (i : Nat) (m : Mate) : (((((i : Int) == 0) && (m.Ahead != 0)) || (((decide ((i : Int) > 0)) && (m.Ahead == 0)) && (m.Until == 0))) || ((m.Ward == 0) && (m.Until != 0))) = staP i m := by
  rw [← sta_eq]
  cases ((i : Int) == 0) <;> cases decide ((i : Int) > 0) <;> cases (m.Until == 0) <;> cases (m.Ahead == 0) <;> rfl
theorem ord_drop (c : Convoy) : anyI (ordP c) 1 (c.Mates.drop 1) = anyI (ordP c) 0 c.Mates := by
  cases h : c.Mates with
  | nil => rfl
  | cons a r =>
    rw [List.drop_one, List.tail_cons]
    conv => rhs; rw [anyI]
    have : ordP c 0 a = false := rfl
    rw [this, Bool.false_or]
theorem ref09_Check_eq (c : Convoy) (hl : c.Mates.length ≤ 1000000) : ref09_Check c = some (chkM c) := by
  unfold ref09_Check chkM
  rw [ref09_numbers_eq c hl, Option.bind_some]
  by_cases h1 : numM c = 0
  · have e : ∀ a b : Int, (if numM c ≠ 0 then a else b) = b := fun a b => if_neg (by simpa using h1)
    rw [e, e]
    unfold ordM
    cases hd : anyI (dupP c) 0 c.Mates
    · simp only [Bool.false_eq_true, if_false, bne_self_eq_false, cond_false]
      have hpos : 1 ≤ c.Mates.length := by
        rcases Nat.eq_zero_or_pos c.Mates.length with h | h
        · exfalso
          unfold numM at h1
          rw [if_pos h] at h1
          split at h1 <;> cases h1
        · exact h
      have h2 := scan (f := ref09_Check_l1 c) c.Mates (ordP c) (11 : Int) (by omega) 1 (fun i a hi h => by
        have hlt := get_lt h
        obtain ⟨k, e1, e2, _⟩ := ord_at hl hi h
        unfold ref09_Check_l1
        rw [show decide ((i : Int) < (c.Mates.length : Int)) = true from decide_eq_true (by omega), geti_some h]
        simp only [cond_true, Option.bind_some]
        rw [e1, e2]
        simp only [Option.bind_some, ref09_rear_eq, ge_iff_le]
        cases decide (w64 (k.S - k.Len) ≤ a.S) <;> rfl) (by unfold ref09_Check_l1; simp) hpos
      rw [show ((1 : Nat) : Int) = 1 from rfl, ord_drop] at h2
      rw [h2]
      cases anyI (ordP c) 0 c.Mates
      · simp only [Bool.false_eq_true, if_false, thenS]
        have h3 := scan (f := ref09_Check_l2 c) c.Mates staP (10 : Int) (by omega) 0 (fun i a _ h => by
          have hlt := get_lt h
          unfold ref09_Check_l2
          rw [show decide ((i : Int) < (c.Mates.length : Int)) = true from decide_eq_true (by omega), geti_some h]
          simp only [cond_true, Option.bind_some]
          rw [sta_eq2]
          cases staP i a <;> rfl) (by unfold ref09_Check_l2; simp) (by omega)
        have h4 := scan (f := ref09_Check_l3 c) c.Mates (fun _ => clashP c) (12 : Int) (by omega) 0 (fun i a _ h => by
          have hlt := get_lt h
          unfold ref09_Check_l3
          rw [show decide ((i : Int) < (c.Mates.length : Int)) = true from decide_eq_true (by omega), geti_some h]
          simp only [cond_true, Option.bind_some, ref09_Safe_eq, cond_some]
          unfold clashP keepM
          rw [show (a.Ahead != 0) = !(a.Ahead == 0) from rfl, show (a.Until != 0) = !(a.Until == 0) from rfl]
          cases (a.Ahead == 0) <;> cases safeM a.S a.V c.Gap a.Guess_ <;> cases (a.Until == 0) <;> cases safeM a.S a.V c.Gap a.WardGuess <;> rfl) (by unfold ref09_Check_l3; simp) (by omega)
        rw [show ((0 : Nat) : Int) = 0 from rfl, List.drop_zero] at h3 h4
        rw [anyI_any] at h4
        rw [h3]
        cases anyI staP 0 c.Mates
        · simp only [Bool.false_eq_true, if_false, ne_eq, not_true_eq_false]
          rw [h4]
          cases c.Mates.any (clashP c)
          · simp only [Bool.false_eq_true, if_false, Option.bind_some, ref09_stop_eq, cond_some, Bool.false_or]
            unfold guestBad
            cases (c.Guest_.ID != 0)
            · rfl
            · simp only [cond_true, Bool.true_and, ge_iff_le]
              cases decide (c.Guest_.End ≤ w64 (c.Guest_.S + stopM c.Guest_.V)) <;> rfl
          · rfl
        · rfl
      · rfl
    · rfl
  · rw [if_pos h1, if_pos h1, show (numM c != 0) = true by simpa using h1]; rfl
end Go.Abs.Convoyz

namespace Go.Abs.Convoyz
open Go Go.Abs

/-! ### Numbers drawn from a ring -/
theorem next_any (r : KitRing) {k : Int} (h0 : 0 ≤ r.at_) (h1 : r.at_ ≤ 1000000000) (hk : 0 < k) : ∃ x, kit_Ring_Next_o r k = some (x, ⟨r.l, r.at_ + 1⟩) ∧ 0 ≤ x ∧ x < k := by
  have e1 : ∀ n : Int, 0 ≤ n → n ≤ 9000000000000 → remc n k = some (n % k) := fun n a b => by
    unfold remc
    rw [if_neg (by omega), Int.tmod_eq_emod_of_nonneg a]
  have b1 : ∀ n : Int, 0 ≤ n % k ∧ n % k < k := fun n => ⟨Int.emod_nonneg _ (by omega), Int.emod_lt_of_pos _ hk⟩
  unfold kit_Ring_Next_o
  rw [w64_id (n := r.at_ + 1) (by omega), w64_id (n := (r.at_ + 1) * 7919) (by omega), Int.tmod_eq_emod_of_nonneg (show 0 ≤ (r.at_ + 1) * 7919 by omega)]
  by_cases hl : (r.l.length : Int) > 0
  · rw [show decide ((r.l.length : Int) > 0) = true from decide_eq_true hl, cond_true]
    have e2 : remc (r.at_ + 1) (r.l.length : Int) = some ((r.at_ + 1) % (r.l.length : Int)) := by
      unfold remc
      rw [if_neg (by omega), Int.tmod_eq_emod_of_nonneg (by omega)]
    have b2 := Int.emod_nonneg (r.at_ + 1) (show (r.l.length : Int) ≠ 0 by omega)
    have b3 := Int.emod_lt_of_pos (r.at_ + 1) hl
    rw [e2, Option.bind_some]
    obtain ⟨j, hj⟩ : ∃ j : Nat, (r.at_ + 1) % (r.l.length : Int) = (j : Int) := ⟨_, (Int.toNat_of_nonneg b2).symm⟩
    rw [hj, geti_nat (show j < r.l.length by omega), Option.bind_some, (kit_Mod_eq (n := r.l[j]'(by omega)) (m := 1048576) (by decide) (by decide)).1, Option.bind_some]
    generalize hv : (r.l[j]'(by omega)) % 1048576 = v
    have v0 : 0 ≤ v := by rw [← hv]; exact Int.emod_nonneg _ (by decide)
    have v1 : v < 1048576 := by rw [← hv]; exact Int.emod_lt_of_pos _ (by decide)
    have q0 : 0 ≤ (r.at_ + 1) / (r.l.length : Int) := Int.ediv_nonneg (by omega) (by omega)
    have q1 : (r.at_ + 1) / (r.l.length : Int) ≤ r.at_ + 1 := Int.ediv_le_self _ (by omega)
    have e3 : quoc .i64 (r.at_ + 1) (r.l.length : Int) = some ((r.at_ + 1) / (r.l.length : Int)) := by
      unfold quoc
      rw [if_neg (by omega), Int.tdiv_eq_ediv_of_nonneg (by omega)]
      rw [show IntKind.i64.wrap ((r.at_ + 1) / (r.l.length : Int)) = _ from w64_id (by omega)]
    rw [e3, Option.bind_some]
    generalize (r.at_ + 1) / (r.l.length : Int) = q at q0 q1
    rw [w64_id (n := 1 + q) (by omega)]
    have p0 : 0 ≤ v / (1 + q) := Int.ediv_nonneg v0 (by omega)
    have p1 : v / (1 + q) ≤ v := Int.ediv_le_self _ v0
    have e4 : quoc .i64 v (1 + q) = some (v / (1 + q)) := by
      unfold quoc
      rw [if_neg (by omega), Int.tdiv_eq_ediv_of_nonneg v0]
      rw [show IntKind.i64.wrap (v / (1 + q)) = _ from w64_id (by omega)]
    rw [e4, Option.bind_some]
    have c0 := Int.emod_nonneg ((r.at_ + 1) * 7919) (show (10007 : Int) ≠ 0 by decide)
    have c1 := Int.emod_lt_of_pos ((r.at_ + 1) * 7919) (show (0 : Int) < 10007 by decide)
    rw [w64_id (by omega), e1 _ (by omega) (by omega), Option.bind_some]
    exact ⟨_, rfl, b1 _⟩
  · rw [show decide ((r.l.length : Int) > 0) = false from decide_eq_false hl, cond_false]
    have c0 := Int.emod_nonneg ((r.at_ + 1) * 7919) (show (10007 : Int) ≠ 0 by decide)
    have c1 := Int.emod_lt_of_pos ((r.at_ + 1) * 7919) (show (0 : Int) < 10007 by decide)
    rw [e1 _ (by omega) (by omega), Option.bind_some]
    exact ⟨_, rfl, b1 _⟩

theorem next_ok (r : KitRing) {k : Int} (h0 : 0 ≤ r.at_) (h1 : r.at_ ≤ 1000000000) (hk : 0 < k) (_ : k ≤ 1000000000) : ∃ x, kit_Ring_Next_o r k = some (x, ⟨r.l, r.at_ + 1⟩) ∧ 0 ≤ x ∧ x < k := next_any r h0 h1 hk

/-! ### The kit's mates -/
theorem stop2000 {v : Int} (h : v ≤ 2000) : 0 ≤ stopM v ∧ stopM v ≤ 21230 := by
  refine ⟨(stopM_nonneg v).1, ?_⟩
  have := stop_mono h (by decide)
  have e : stopM 2000 = 21230 := by decide
  omega
/-- The numbers of a mate of the kit. -/
def KitM (m : Mate) : Prop := (16000000 ≤ m.S ∧ m.S ≤ 16777216) ∧ (0 ≤ m.V ∧ m.V ≤ 2000) ∧ (300 ≤ m.Len ∧ m.Len ≤ 6299)
theorem safe_lit {s v gap : Int} {g : Guess} (hs : -100000000 ≤ s ∧ s ≤ 100000000) (hv : 0 ≤ v ∧ v ≤ 2000) (hg : -100000000 ≤ gap ∧ gap ≤ 100000000) (hr : -100000000 ≤ g.R ∧ g.R ≤ 100000000) (hw : 0 ≤ g.V ∧ g.V ≤ 2000) :
    safeM s v gap g = (decide (s ≤ g.R - gap) && decide (s + stopM v ≤ endM g - gap)) := by
  have a := stopM_nonneg v
  have b := stopM_nonneg g.V
  unfold safeM
  have : saneM [s, v, gap, g.R, g.V] = true := by
    simp only [saneM, List.all_cons, List.all_nil, Bool.and_true, Bool.and_eq_true, sane1_iff]
    omega
  rw [this]
  simp only [Bool.true_and]
theorem l2_ok (gap : Int) (k : Mate) (hk : KitM k) (hg : 1 ≤ gap ∧ gap ≤ 3000) : ∀ (n : Nat) (m : Mate), n ≤ 100 → m.S ≤ k.S - k.Len - gap → stopM m.V - stopM k.V - 500 * n ≤ k.S - k.Len - gap - m.S → 0 ≤ m.V ∧ m.V ≤ 2000 → 15000000 + 500 * n ≤ m.S →
    ∃ s, loop (kit_Mates_o_l2 gap k) m = some { m with S := s } ∧ s ≤ m.S ∧ m.S - 500 * n ≤ s ∧ safeM s m.V gap ⟨k.S - k.Len, k.V⟩ = true := by
  obtain ⟨⟨k1, k2⟩, k3, k4⟩ := hk
  intro n
  induction n with
  | zero =>
    intro m _ h1 h2 h3 h4
    have sf : safeM m.S m.V gap ⟨k.S - k.Len, k.V⟩ = true := by
      rw [safe_lit (by omega) h3 (by omega) (by dsimp only; omega) k3]
      unfold endM
      simp only [Bool.and_eq_true, decide_eq_true_eq]
      omega
    refine ⟨m.S, loop_out ?_, Int.le_refl _, by omega, sf⟩
    unfold kit_Mates_o_l2
    rw [w64_id (n := k.S - k.Len) (by omega), ref09_Safe_eq, sf]; rfl
  | succ n ih =>
    intro m hn h1 h2 h3 h4
    cases sf : safeM m.S m.V gap ⟨k.S - k.Len, k.V⟩
    · obtain ⟨s, e, a, b, c⟩ := ih { m with S := m.S - 500 } (by omega) (by dsimp only; omega) (by dsimp only; omega) h3 (by dsimp only; omega)
      refine ⟨s, ?_, by dsimp only at a; omega, by dsimp only at b; omega, c⟩
      rw [loop_go (s' := { m with S := m.S - 500 }) ?_, e]
      unfold kit_Mates_o_l2
      rw [w64_id (n := k.S - k.Len) (by omega), ref09_Safe_eq, sf, w64_id (n := m.S - 500) (by omega)]; rfl
    · refine ⟨m.S, loop_out ?_, Int.le_refl _, by omega, sf⟩
      unfold kit_Mates_o_l2
      rw [w64_id (n := k.S - k.Len) (by omega), ref09_Safe_eq, sf]; rfl
/-- A list of mates of the kit: each is safe behind the one ahead. -/
def Chn (gap : Int) (l : List Mate) : Prop := ∀ (i : Nat) m, l[i]? = some m → KitM m ∧ 16777216 - 50000 * (i : Int) ≤ m.S ∧ (0 < i → ∃ k, l[i - 1]? = some k ∧ m.S ≤ k.S - k.Len - gap ∧ safeM m.S m.V gap ⟨k.S - k.Len, k.V⟩ = true)
theorem chn_snoc {gap : Int} {l : List Mate} {y : Mate} (h : Chn gap l) (hy : KitM y ∧ 16777216 - 50000 * (l.length : Int) ≤ y.S ∧ (0 < l.length → ∃ k, l[l.length - 1]? = some k ∧ y.S ≤ k.S - k.Len - gap ∧ safeM y.S y.V gap ⟨k.S - k.Len, k.V⟩ = true)) : Chn gap (l ++ [y]) := by
  intro i m hm
  by_cases hi : i < l.length
  · rw [List.getElem?_append_left hi] at hm
    obtain ⟨a, b, c⟩ := h i m hm
    refine ⟨a, b, fun h0 => ?_⟩
    obtain ⟨k, e, d⟩ := c h0
    exact ⟨k, by rw [List.getElem?_append_left (by omega)]; exact e, d⟩
  · have hlt := get_lt hm
    simp only [List.length_append, List.length_cons, List.length_nil] at hlt
    obtain rfl : i = l.length := by omega
    rw [List.getElem?_append_right (Nat.le_refl _), Nat.sub_self] at hm
    obtain rfl : y = m := by simpa using hm
    refine ⟨hy.1, hy.2.1, fun h0 => ?_⟩
    obtain ⟨k, e, d⟩ := hy.2.2 h0
    exact ⟨k, by rw [List.getElem?_append_left (by omega)]; exact e, d⟩
theorem mates_l1 (gap : Int) (hg : 1 ≤ gap ∧ gap ≤ 3000) : ∀ (n : Nat) (l : List Mate) (r : KitRing), Chn gap l → 1 ≤ l.length → l.length + n ≤ 10 → 0 ≤ r.at_ → r.at_ + 4 * n ≤ 1000000000 →
    ∃ l', loop (kit_Mates_o_l1 gap) (l, (n : Int), r) = some (l', ⟨r.l, r.at_ + 4 * n⟩) ∧ Chn gap l' ∧ l'.length = l.length + n := by
  intro n
  induction n with
  | zero =>
    intro l r h1 h2 h3 h4 h5
    refine ⟨l, loop_out ?_, h1, rfl⟩
    unfold kit_Mates_o_l1
    simp
  | succ n ih =>
    intro l r h1 h2 h3 h4 h5
    have hlast : l.length - 1 < l.length := by omega
    obtain ⟨kM, kS, _⟩ := h1 (l.length - 1) _ (List.getElem?_eq_getElem hlast)
    generalize hkk : l[l.length - 1] = k at kM kS
    have hget : geti l (w64 ((l.length : Int) - 1)) = some k := by
      rw [w64_id (by omega), show (l.length : Int) - 1 = ((l.length - 1 : Nat) : Int) by omega, geti_nat hlast, hkk]
    obtain ⟨x1, e1, a1, b1⟩ := next_ok r (k := 2001) h4 (by omega) (by decide) (by decide)
    obtain ⟨x2, e2, a2, b2⟩ := next_ok ⟨r.l, r.at_ + 1⟩ (k := 6000) (by dsimp only; omega) (by dsimp only; omega) (by decide) (by decide)
    obtain ⟨x3, e3, a3, b3⟩ := next_ok ⟨r.l, r.at_ + 1 + 1⟩ (k := 3) (by dsimp only; omega) (by dsimp only; omega) (by decide) (by decide)
    obtain ⟨x4, e4, a4, b4⟩ := next_ok ⟨r.l, r.at_ + 1 + 1 + 1⟩ (k := 9000) (by dsimp only; omega) (by dsimp only; omega) (by decide) (by decide)
    dsimp only at e1 e2 e3 e4
    obtain ⟨kM1, kM2, kM3⟩ := kM
    have t1 := stop2000 (v := x1) (by omega)
    have t2 := stopM_nonneg k.V
    obtain ⟨s, es, s1, s2, s3⟩ := l2_ok gap k ⟨kM1, kM2, kM3⟩ hg 43 (Mate.mk 0 (k.S - k.Len - gap) x1 (300 + x2) 0 (Guess.mk 0 0) false 0 (Guess.mk 0 0) 0) (by omega) (by dsimp only; omega) (by dsimp only; omega) (by dsimp only; omega) (by dsimp only; omega)
    dsimp only at es s1 s2 s3
    have m1 : 0 ≤ x3 * x4 ∧ x3 * x4 ≤ 2 * 8999 := ⟨Int.mul_nonneg a3 a4, Int.mul_le_mul (by omega) (by omega) a4 (by decide)⟩
    generalize hp : x3 * x4 = p at m1
    have sf : safeM (s - p) x1 gap ⟨k.S - k.Len, k.V⟩ = true := by
      rw [safe_lit (by omega) (by omega) (by omega) (by dsimp only; omega) kM2] at s3 ⊢
      simp only [Bool.and_eq_true, decide_eq_true_eq] at s3 ⊢
      omega
    have hc := chn_snoc (y := Mate.mk 0 (s - p) x1 (300 + x2) 0 (Guess.mk 0 0) false 0 (Guess.mk 0 0) 0) h1 ⟨⟨by dsimp only; omega, by dsimp only; omega, by dsimp only; omega⟩, by dsimp only; omega, fun _ => ⟨k, by rw [List.getElem?_eq_getElem hlast, hkk], by dsimp only; omega, sf⟩⟩
    obtain ⟨l', e', c', n'⟩ := ih _ ⟨r.l, r.at_ + 1 + 1 + 1 + 1⟩ hc (by simp) (by simp; omega) (by dsimp only; omega) (by dsimp only; omega)
    refine ⟨l', ?_, c', by rw [n']; simp; omega⟩
    rw [loop_go (s' := (l ++ [Mate.mk 0 (s - p) x1 (300 + x2) 0 (Guess.mk 0 0) false 0 (Guess.mk 0 0) 0], (n : Int), ⟨r.l, r.at_ + 1 + 1 + 1 + 1⟩)) ?_, e']
    · dsimp only
      rw [show r.at_ + 1 + 1 + 1 + 1 + 4 * (n : Int) = r.at_ + 4 * ((n + 1 : Nat) : Int) by omega]
    · unfold kit_Mates_o_l1
      rw [show decide (((n + 1 : Nat) : Int) > 0) = true from decide_eq_true (by omega)]
      dsimp only
      rw [hget, e1, cond_true, Option.bind_some, Option.bind_some]
      dsimp only
      rw [e2, Option.bind_some]
      dsimp only
      rw [w64_id (n := k.S - k.Len) (by omega), w64_id (n := k.S - k.Len - gap) (by omega), w64_id (n := 300 + x2) (by omega), es, Option.bind_some, e3, Option.bind_some]
      dsimp only
      rw [e4, Option.bind_some]
      dsimp only
      rw [hp, w64_id (n := p) (by omega), w64_id (n := s - p) (by omega), appc_ok (by simp; omega), Option.bind_some, w64_id (by omega), show ((n + 1 : Nat) : Int) - 1 = (n : Int) by omega]
theorem mates_ok (r : KitRing) {gap k : Int} (h0 : 0 ≤ r.at_) (h1 : r.at_ ≤ 1000000) (hg : 1 ≤ gap ∧ gap ≤ 3000) (hk : 1 ≤ k ∧ k ≤ 9) : ∃ l r', kit_Mates_o r gap k = some (l, r') ∧ Chn gap l ∧ (1 ≤ l.length ∧ (l.length : Int) ≤ k) ∧ r'.l = r.l ∧ r.at_ ≤ r'.at_ ∧ r'.at_ ≤ r.at_ + 100 := by
  obtain ⟨x1, e1, a1, b1⟩ := next_ok r (k := 2001) h0 (by omega) (by decide) (by decide)
  obtain ⟨x2, e2, a2, b2⟩ := next_ok ⟨r.l, r.at_ + 1⟩ (k := 6000) (by dsimp only; omega) (by dsimp only; omega) (by decide) (by decide)
  obtain ⟨x3, e3, a3, b3⟩ := next_ok ⟨r.l, r.at_ + 1 + 1⟩ (k := k) (by dsimp only; omega) (by dsimp only; omega) (by omega) (by omega)
  dsimp only at e1 e2 e3
  obtain ⟨n, rfl⟩ : ∃ n : Nat, x3 = (n : Int) := ⟨_, (Int.toNat_of_nonneg a3).symm⟩
  have hc : Chn gap [(Mate.mk 0 16777216 x1 (300 + x2) 0 (Guess.mk 0 0) false 0 (Guess.mk 0 0) 0)] := by
    intro i m hm
    have hi := get_lt hm
    simp only [List.length_cons, List.length_nil] at hi
    obtain rfl : i = 0 := by omega
    obtain rfl : _ = m := by simpa using hm
    exact ⟨⟨by dsimp only; omega, by dsimp only; omega, by dsimp only; omega⟩, by dsimp only; omega, fun h => absurd h (by omega)⟩
  obtain ⟨l', e', c', n'⟩ := mates_l1 gap hg n _ ⟨r.l, r.at_ + 1 + 1 + 1⟩ hc (by simp) (by simp; omega) (by dsimp only; omega) (by dsimp only; omega)
  simp only [List.length_cons, List.length_nil] at n'
  refine ⟨l', ⟨r.l, r.at_ + 1 + 1 + 1 + 4 * (n : Int)⟩, ?_, c', by omega, rfl, by dsimp only; omega, by dsimp only; omega⟩
  unfold kit_Mates_o
  rw [e1, Option.bind_some]
  dsimp only
  rw [e2, Option.bind_some]
  dsimp only
  rw [e3, Option.bind_some]
  dsimp only
  rw [w64_id (n := 300 + x2) (by omega), e']
  rfl
end Go.Abs.Convoyz

namespace Go.Abs.Convoyz
open Go Go.Abs

/-! ### New convoys -/
def G0 : Guest := Guest.mk 0 0 0 0 0 0 (Guess.mk 0 0) 0 0
def C0 : Convoy := Convoy.mk 0 0 [] G0
def newAt (l : List Mate) (i : Nat) (m : Mate) : Mate := Mate.mk ((i : Int) + 1) m.S m.V m.Len (i : Int) (match (if 0 < i then l[i - 1]? else none) with | some k => ⟨w64 (k.S - k.Len), k.V⟩ | none => ⟨0, 0⟩) true 0 ⟨0, 0⟩ 0
def newL (l : List Mate) : List Mate := l.mapIdx (newAt l)
theorem newL_len (l : List Mate) : (newL l).length = l.length := List.length_mapIdx
theorem newL_get {l : List Mate} {i : Nat} {m : Mate} (h : l[i]? = some m) : (newL l)[i]? = some (newAt l i m) := by
  unfold newL
  rw [List.getElem?_mapIdx, h]; rfl
theorem new_loop {f : Int × Convoy → Option (Stp (Int × Convoy) Convoy)} (gap : Int) (l : List Mate) (hf : ∀ (i : Nat) m (ms : List Mate), l[i]? = some m → ms.length = i → f ((i : Int), ⟨0, gap, ms, G0⟩) = some (.go (((i + 1 : Nat) : Int), ⟨0, gap, ms ++ [newAt l i m], G0⟩))) (he : ∀ c, f ((l.length : Int), c) = some (.out c)) :
    loop f (0, ⟨0, gap, [], G0⟩) = some ⟨0, gap, newL l, G0⟩ := by
  have key : ∀ (r : List Mate) (i : Nat), l.drop i = r → i ≤ l.length → loop f ((i : Int), ⟨0, gap, (newL l).take i, G0⟩) = some ⟨0, gap, newL l, G0⟩ := by
    intro r
    induction r with
    | nil =>
      intro i hi hil
      have := drop_nil hi
      obtain rfl : i = l.length := by omega
      rw [loop_out (he _), List.take_of_length_le (by rw [newL_len]; exact Nat.le_refl _)]
    | cons a r ih =>
      intro i hi _
      have hlt := drop_lt hi
      have h0 : l[i]? = some a := by have := congrArg (fun z => z[0]?) hi; simpa using this
      rw [loop_go (hf i a _ h0 (by rw [List.length_take, newL_len]; omega))]
      have := ih (i + 1) (drop_succ hi) (by omega)
      rw [List.take_add_one, newL_get h0] at this
      exact this
  exact key l 0 rfl (by omega)
def newM (gap : Int) (l : List Mate) : Convoy × Int := if chkM ⟨0, gap, newL l, G0⟩ ≠ 0 then (C0, chkM ⟨0, gap, newL l, G0⟩) else (⟨0, gap, newL l, G0⟩, 0)
theorem new_end {e : Int} {a : Convoy} : cond (e != 0) (some (C0, e)) (some (a, 0)) = some (if e ≠ 0 then (C0, e) else (a, 0)) := by
  by_cases h : e = 0
  · rw [h]; rfl
  · rw [if_pos h, show (e != 0) = true by simpa using h]; rfl
theorem prev_at {l : List Mate} (hl : l.length ≤ 1000000) {i : Nat} {m : Mate} (h : l[i]? = some m) (hi : 0 < i) : ∃ k, geti l (w64 ((i : Int) - 1)) = some k ∧ l[i - 1]? = some k := by
  have hlt := get_lt h
  have : i - 1 < l.length := by omega
  exact ⟨l[i - 1], by rw [w64_id (by omega), show (i : Int) - 1 = ((i - 1 : Nat) : Int) by omega, geti_nat this], List.getElem?_eq_getElem this⟩
theorem ref09_New_eq (gap : Int) (l : List Mate) (hl : l.length ≤ 1000000) : ref09_New gap l = some (newM gap l) := by
  unfold ref09_New
  rw [show (Convoy.mk 0 gap [] (Guest.mk 0 0 0 0 0 0 (Guess.mk 0 0) 0 0)) = ⟨0, gap, [], G0⟩ from rfl, new_loop gap l (fun i m ms h hm => by
    have hlt := get_lt h
    unfold ref09_New_l1
    rw [show decide ((i : Int) < (l.length : Int)) = true from decide_eq_true (by omega)]
    dsimp only
    rw [geti_some h]
    simp only [cond_true, Option.bind_some]
    rw [w64_id (n := (i : Int) + 1) (by omega)]
    by_cases hi : 0 < i
    · obtain ⟨k, e1, e2⟩ := prev_at hl h hi
      rw [show decide ((i : Int) > 0) = true from decide_eq_true (by omega), e1]
      simp only [cond_true, Option.bind_some, ref09_rear_eq]
      rw [appc_ok (by simp; omega), Option.bind_some]
      unfold newAt
      rw [if_pos hi, e2]; rfl
    · rw [show decide ((i : Int) > 0) = false from decide_eq_false (by omega), cond_false, Option.bind_some, appc_ok (by simp; omega), Option.bind_some]
      unfold newAt
      rw [if_neg hi]; rfl) (fun c => by unfold ref09_New_l1; simp)]
  rw [Option.bind_some, ref09_Check_eq _ (by rw [newL_len]; exact hl), Option.bind_some]
  exact new_end
def takenP (g : Guest) (m : Mate) : Bool := m.ID == g.ID || (m.Ward == g.ID && g.ID != 0)
def withG (c : Convoy) (g : Guest) : Convoy := ⟨c.Tick, c.Gap, c.Mates, Guest.mk g.ID g.S g.V g.Len g.End 0 (Guess.mk 0 0) 0 0⟩
def rampM (c : Convoy) (g : Guest) : Convoy × Int :=
  if chkM c ≠ 0 then (C0, chkM c) else if (c.Guest_.ID != 0) || c.Mates.any (takenP g) then (C0, 9) else if g.ID = 0 then (C0, 2) else if chkM (withG c g) ≠ 0 then (C0, chkM (withG c g)) else (withG c g, 0)
theorem ref09_Copy_eq (c : Convoy) (hl : c.Mates.length ≤ 1000000) : ref09_Copy c = some c := by
  unfold ref09_Copy
  rw [appc_ok (by simp; omega)]; rfl
theorem ramp_l1 (c : Convoy) (g : Guest) (hl : c.Mates.length ≤ 1000000) : ∀ (r : List Mate) (i : Nat) (b : Bool), c.Mates.drop i = r → loop (ref09_Ramp_l1 c g) (b, (i : Int)) = some (b || r.any (takenP g)) := by
  intro r
  induction r with
  | nil =>
    intro i b hi
    have := drop_nil hi
    refine loop_out ?_
    unfold ref09_Ramp_l1
    rw [show decide ((i : Int) < (c.Mates.length : Int)) = false from decide_eq_false (by omega)]; simp
  | cons a r ih =>
    intro i b hi
    have hlt := drop_lt hi
    have hs : ref09_Ramp_l1 c g (b, (i : Int)) = some (.go (b || takenP g a, ((i + 1 : Nat) : Int))) := by
      unfold ref09_Ramp_l1
      rw [show decide ((i : Int) < (c.Mates.length : Int)) = true from decide_eq_true (by omega)]
      dsimp only
      rw [geti_drop hi, w64_id (by omega)]
      simp only [cond_true, cond_some, Option.bind_some]
      unfold takenP
      cases b
      · simp only [Bool.not_false, cond_true, Bool.false_or]
        cases (a.ID == g.ID)
        · rfl
        · rfl
      · rfl
    rw [loop_go hs, ih (i + 1) _ (drop_succ hi), List.any_cons, Bool.or_assoc]
theorem ref09_Ramp_eq (c : Convoy) (g : Guest) (hl : c.Mates.length ≤ 1000000) : ref09_Ramp c g = some (rampM c g) := by
  unfold ref09_Ramp rampM
  rw [ref09_Check_eq c hl, Option.bind_some]
  by_cases h1 : chkM c = 0
  · rw [h1, if_neg (by decide), show ((0 : Int) != 0) = false from rfl, cond_false]
    have := ramp_l1 c g hl c.Mates 0 (c.Guest_.ID != 0) rfl
    rw [show ((0 : Nat) : Int) = 0 from rfl] at this
    rw [this, Option.bind_some]
    cases ((c.Guest_.ID != 0) || c.Mates.any (takenP g))
    · simp only [cond_false, Bool.false_eq_true, if_false]
      by_cases h2 : g.ID = 0
      · rw [if_pos h2, show (g.ID == 0) = true by simpa using h2]; rfl
      · rw [if_neg h2, show (g.ID == 0) = false by simpa using h2, cond_false, ref09_Copy_eq c hl, Option.bind_some]
        rw [show (Convoy.mk c.Tick c.Gap c.Mates (Guest.mk g.ID g.S g.V g.Len g.End 0 (Guess.mk 0 0) 0 0)) = withG c g from rfl, ref09_Check_eq (withG c g) hl, Option.bind_some]
        exact new_end
    · rfl
  · rw [if_pos h1, show (chkM c != 0) = true by simpa using h1]; rfl
theorem rampM_len (c : Convoy) (g : Guest) (h : (rampM c g).2 = 0) : rampM c g = (withG c g, 0) := by
  unfold rampM at *
  split at h
  · rename_i q; exact absurd h q
  · rename_i q
    split at h
    · exact absurd h (by decide)
    · split at h
      · exact absurd h (by decide)
      · split at h
        · rename_i q3; exact absurd h q3
        · rename_i q1 q2 q3
          rw [if_neg q, if_neg q1, if_neg q2, if_neg q3]
end Go.Abs.Convoyz

namespace Go.Abs.Convoyz
open Go Go.Abs

theorem anyI_false {α : Type} {P : Nat → α → Bool} : ∀ {l : List α} {i : Nat}, (∀ (j : Nat) m, l[j]? = some m → P (i + j) m = false) → anyI P i l = false
  | [], _, _ => rfl
  | a :: r, i, h => by
    rw [anyI, show P i a = false from h 0 a rfl, Bool.false_or]
    refine anyI_false fun j m hm => ?_
    have := h (j + 1) m (by simpa using hm)
    rwa [show i + 1 + j = i + (j + 1) by omega]
theorem anyI_get {α : Type} {P : Nat → α → Bool} : ∀ {l : List α} {i : Nat}, anyI P i l = false → ∀ (j : Nat) m, l[j]? = some m → P (i + j) m = false
  | [], _, _, _, _, hm => by simp at hm
  | a :: r, i, h, j, m, hm => by
    rw [anyI, Bool.or_eq_false_iff] at h
    cases j with
    | zero => obtain rfl : a = m := by simpa using hm
              exact h.1
    | succ j =>
      have := anyI_get h.2 j m (by simpa using hm)
      rwa [show i + (j + 1) = i + 1 + j by omega]
theorem newL_of {l : List Mate} {i : Nat} {m : Mate} (h : (newL l)[i]? = some m) : ∃ k, l[i]? = some k ∧ m = newAt l i k := by
  have hlt := get_lt h
  rw [newL_len] at hlt
  have := newL_get (List.getElem?_eq_getElem hlt)
  rw [h] at this
  exact ⟨_, List.getElem?_eq_getElem hlt, Option.some.inj this⟩
theorem within_of {n a b : Int} (h1 : a ≤ n) (h2 : n ≤ b) : within n a b = true := by simp [within, h1, h2]
theorem within_iff {n a b : Int} : within n a b = true ↔ a ≤ n ∧ n ≤ b := by simp [within]
/-- A new convoy of the kit's mates. -/
def base (gap : Int) (l : List Mate) : Convoy := ⟨0, gap, newL l, G0⟩
/-- What is true of a mate of a new convoy. -/
structure NewAt (gap : Int) (l : List Mate) (i : Nat) (m : Mate) : Prop where
  id : m.ID = (i : Int) + 1
  ahead : m.Ahead = (i : Int)
  ward : m.Ward = 0
  untl : m.Until = 0
  wg : m.WardGuess = ⟨0, 0⟩
  trust : m.Trust = true
  kit : KitM m
  zero : i = 0 → m.Guess_ = ⟨0, 0⟩
  pred : 0 < i → ∃ k, (newL l)[i - 1]? = some k ∧ k.ID = (i : Int) ∧ m.Guess_ = ⟨k.S - k.Len, k.V⟩ ∧ m.S ≤ k.S - k.Len - gap ∧ safeM m.S m.V gap m.Guess_ = true ∧ KitM k
theorem new_at {gap : Int} {l : List Mate} (hc : Chn gap l) {i : Nat} {m : Mate} (h : (newL l)[i]? = some m) : NewAt gap l i m := by
  obtain ⟨k, hk, rfl⟩ := newL_of h
  obtain ⟨a, b, c⟩ := hc i k hk
  refine ⟨rfl, rfl, rfl, rfl, rfl, rfl, a, ?_, ?_⟩
  · rintro rfl; rfl
  · intro hi
    obtain ⟨p, e, d, s⟩ := c hi
    have ap := (hc _ _ e).1
    have eg : (newAt l i k).Guess_ = ⟨p.S - p.Len, p.V⟩ := by
      unfold newAt
      rw [if_pos hi, e]
      dsimp only
      rw [w64_id (by obtain ⟨x, y, z⟩ := ap; omega)]
    refine ⟨newAt l (i - 1) p, newL_get e, by unfold newAt; dsimp only; omega, eg, d, ?_, ap⟩
    rw [eg]; exact s
theorem base_ok {gap : Int} {l : List Mate} (hc : Chn gap l) (hg : 1 ≤ gap ∧ gap ≤ 3000) (h1 : 1 ≤ l.length) (h2 : l.length ≤ 8) : chkM (base gap l) = 0 := by
  have n0 : numM (base gap l) = 0 := by
    unfold numM base
    dsimp only
    rw [show within 0 0 1099511627776 = true from rfl, within_of hg.1 (show gap ≤ 20000 by omega), newL_len, if_neg (by decide), if_neg (by omega), show noGuest G0 = true from rfl, if_pos rfl, if_neg (by omega)]
    rw [show ((newL l).any fun m => !mateM m) = false from ?_]
    · rfl
    · rw [List.any_eq_false]
      intro m hm
      obtain ⟨i, hi⟩ := List.mem_iff_getElem?.1 hm
      have hlt := get_lt hi
      rw [newL_len] at hlt
      have N := new_at hc hi
      obtain ⟨kS, kV, kL⟩ := N.kit
      have gM : guessM m.Guess_ = true := by
        rcases Nat.eq_zero_or_pos i with z | z
        · rw [N.zero z]; rfl
        · obtain ⟨k, _, _, e, _, _, q1, q2, q3⟩ := N.pred z
          rw [e]
          simp only [guessM, Bool.and_eq_true, within_iff]
          omega
      have : mateM m = true := by
        unfold mateM bodyM
        rw [N.id, N.ahead, N.ward, N.untl, N.wg, gM, show guessM ⟨0, 0⟩ = true from rfl]
        simp only [Bool.and_eq_true, within_iff, and_true]
        omega
      simp [this]
  have d0 : anyI (dupP (base gap l)) 0 (base gap l).Mates = false := by
    refine anyI_false fun j m hm => ?_
    have N := new_at hc hm
    unfold dupP
    rw [Nat.zero_add, Bool.or_eq_false_iff, List.any_eq_false]
    refine ⟨fun x hx => ?_, ?_⟩
    · obtain ⟨q, hq⟩ := List.mem_iff_getElem?.1 hx
      have q1 := get_lt hq
      rw [List.length_take] at q1
      rw [List.getElem?_take, if_pos (by omega)] at hq
      have N2 := new_at hc hq
      rw [N.id, N2.id]
      simp only [beq_iff_eq]; omega
    · rw [N.id]
      simp only [base, G0, beq_eq_false_iff_ne, ne_eq]; omega
  have o0 : anyI (ordP (base gap l)) 0 (base gap l).Mates = false := by
    refine anyI_false fun j m hm => ?_
    have N := new_at hc hm
    unfold ordP
    rw [Nat.zero_add]
    by_cases z : 0 < j
    · obtain ⟨k, e, _, _, q, _, q1, q2, q3⟩ := N.pred z
      rw [show (base gap l).Mates[j - 1]? = some k from e, show decide (0 < j) = true from decide_eq_true z, Bool.true_and]
      dsimp only
      rw [w64_id (by omega)]
      exact decide_eq_false (by omega)
    · rw [show decide (0 < j) = false from decide_eq_false z]; rfl
  have s0 : anyI staP 0 (base gap l).Mates = false := by
    refine anyI_false fun j m hm => ?_
    have N := new_at hc hm
    unfold staP
    rw [N.ahead, N.ward, N.untl, Nat.zero_add]
    cases j with
    | zero => rfl
    | succ j =>
      rw [show (((j + 1 : Nat) : Int) == 0) = false by simp only [beq_eq_false_iff_ne]; omega]
      simp
  have c0 : (base gap l).Mates.any (clashP (base gap l)) = false := by
    rw [List.any_eq_false]
    intro m hm
    obtain ⟨i, hi⟩ := List.mem_iff_getElem?.1 hm
    have N := new_at hc hi
    unfold clashP keepM
    rw [N.ahead, N.untl]
    rcases Nat.eq_zero_or_pos i with z | z
    · rw [z]; simp
    · obtain ⟨k, _, _, _, _, s, _⟩ := N.pred z
      rw [show (base gap l).Gap = gap from rfl, s]
      simp
  unfold chkM ordM
  rw [n0, d0, o0, s0, c0]
  rfl

/-- What the kit's convoys are. -/
structure KitC (b : Bool) (c : Convoy) : Prop where
  chk : chkM c = 0
  is : ∃ gap l, (1 ≤ gap ∧ gap ≤ 3000) ∧ Chn gap l ∧ (1 ≤ l.length ∧ l.length ≤ 5) ∧ (c = base gap l ∨ b = true ∧ ∃ g : Guest, (70 ≤ g.ID ∧ g.ID ≤ 89) ∧ g.S ≤ 16900000 ∧ (0 ≤ g.V ∧ g.V ≤ 2000) ∧ (300 ≤ g.Len ∧ g.Len ≤ 6299) ∧ c = withG (base gap l) g)
theorem KitC.len {b : Bool} {c : Convoy} (h : KitC b c) : c.Mates.length ≤ 5 := by
  obtain ⟨_, _, _, _, ⟨_, n⟩, e | ⟨_, _, _, _, _, _, e⟩⟩ := h.is
  · rw [e]; show (newL _).length ≤ 5; rw [newL_len]; exact n
  · rw [e]; show (newL _).length ≤ 5; rw [newL_len]; exact n
theorem kit_convoy (r : KitRing) (b : Bool) (h0 : 0 ≤ r.at_) (h1 : r.at_ ≤ 1000) : ∃ c r', kit_Convoy_o r b = some (c, r') ∧ KitC b c ∧ r'.l = r.l ∧ r.at_ ≤ r'.at_ ∧ r'.at_ ≤ r.at_ + 200 := by
  obtain ⟨x1, e1, a1, b1⟩ := next_ok r (k := 3000) h0 (by omega) (by decide) (by decide)
  obtain ⟨l, r2, e2, hc, hl, q1, q2, q3⟩ := mates_ok ⟨r.l, r.at_ + 1⟩ (gap := 1 + x1) (k := 5) (by dsimp only; omega) (by dsimp only; omega) (by omega) (by decide)
  dsimp only at q1 q2 q3
  have hn : newM (1 + x1) l = (base (1 + x1) l, 0) := by
    unfold newM
    have := base_ok hc (by omega) hl.1 (by omega)
    unfold base at this
    rw [if_neg (by rw [this]; decide)]; rfl
  unfold kit_Convoy_o
  rw [e1, Option.bind_some]
  dsimp only
  rw [w64_id (n := 1 + x1) (by omega), e2, Option.bind_some]
  dsimp only
  rw [ref09_New_eq _ _ (by omega), Option.bind_some, hn]
  have K0 : KitC b (base (1 + x1) l) := ⟨base_ok hc (by omega) hl.1 (by omega), _, _, by omega, hc, by omega, .inl rfl⟩
  cases b
  · exact ⟨_, _, rfl, K0, q1, by omega, by omega⟩
  · have hlen : (base (1 + x1) l).Mates.length = l.length := newL_len l
    obtain ⟨x4, e4, a4, b4⟩ := next_ok r2 (k := (l.length : Int)) (by omega) (by omega) (by omega) (by omega)
    obtain ⟨x6, e6, a6, b6⟩ := next_ok ⟨r2.l, r2.at_ + 1⟩ (k := 20) (by dsimp only; omega) (by dsimp only; omega) (by decide) (by decide)
    obtain ⟨x7, e7, a7, b7⟩ := next_ok ⟨r2.l, r2.at_ + 1 + 1⟩ (k := 20000) (by dsimp only; omega) (by dsimp only; omega) (by decide) (by decide)
    obtain ⟨x8, e8, a8, b8⟩ := next_ok ⟨r2.l, r2.at_ + 1 + 1 + 1⟩ (k := 2001) (by dsimp only; omega) (by dsimp only; omega) (by decide) (by decide)
    obtain ⟨x9, e9, a9, b9⟩ := next_ok ⟨r2.l, r2.at_ + 1 + 1 + 1 + 1⟩ (k := 6000) (by dsimp only; omega) (by dsimp only; omega) (by decide) (by decide)
    obtain ⟨x10, e10, a10, b10⟩ := next_ok ⟨r2.l, r2.at_ + 1 + 1 + 1 + 1 + 1⟩ (k := 60000) (by dsimp only; omega) (by dsimp only; omega) (by decide) (by decide)
    dsimp only at e6 e7 e8 e9 e10
    obtain ⟨j, rfl⟩ : ∃ j : Nat, x4 = (j : Int) := ⟨_, (Int.toNat_of_nonneg a4).symm⟩
    simp only [bne_self_eq_false, Bool.not_true, cond_false]
    rw [hlen, e4, Option.bind_some]
    dsimp only
    rw [geti_nat (show j < (base (1 + x1) l).Mates.length by omega), Option.bind_some, e6, Option.bind_some]
    dsimp only
    rw [e7, Option.bind_some]
    dsimp only
    rw [e8, Option.bind_some]
    dsimp only
    rw [e9, Option.bind_some]
    dsimp only
    rw [e10, Option.bind_some]
    dsimp only
    rw [ref09_Ramp_eq _ _ (by omega), Option.bind_some]
    generalize hg : (Guest.mk (w64 (70 + x6)) _ x8 _ _ _ _ _ _) = g
    have g1 : g.ID = 70 + x6 := by rw [← hg]; exact w64_id (by omega)
    have g2 : g.V = x8 := by rw [← hg]
    have g3 : g.Len = 300 + x9 := by rw [← hg]; exact w64_id (by omega)
    have g4 : g.S ≤ 16900000 := by
      have hj : j < (base (1 + x1) l).Mates.length := by omega
      obtain ⟨m1, m2, m3⟩ := (new_at hc (List.getElem?_eq_getElem (l := (base (1 + x1) l).Mates) hj)).kit
      rw [← hg]
      dsimp only
      generalize (base (1 + x1) l).Mates[j] = m at m1 m2 m3
      rw [w64_id (n := m.S - m.Len) (by omega), w64_id (n := m.S - m.Len - x7) (by omega), w64_id (by omega)]
      omega
    by_cases h : (rampM (base (1 + x1) l) g).2 = 0
    · have e := rampM_len _ _ h
      rw [e]
      refine ⟨_, _, rfl, ⟨?_, _, _, by omega, hc, by omega, .inr ⟨rfl, g, by omega, g4, by omega, by omega, rfl⟩⟩, q1, by dsimp only; omega, by dsimp only; omega⟩
      unfold rampM at e
      split at e
      · exact absurd (congrArg (fun z => z.1.Mates.length) e) (by show ¬ 0 = (newL l).length; rw [newL_len]; omega)
      · split at e
        · exact absurd (congrArg (fun z => z.2) e) (by simp)
        · split at e
          · exact absurd (congrArg (fun z => z.2) e) (by simp)
          · split at e
            · exact absurd (congrArg (fun z => z.1.Mates.length) e) (by show ¬ 0 = (newL l).length; rw [newL_len]; omega)
            · rename_i q; simpa using q
    · rw [show ((rampM (base (1 + x1) l) g).2 != 0) = true by simpa using h]
      exact ⟨_, _, rfl, K0, q1, by dsimp only; omega, by dsimp only; omega⟩
end Go.Abs.Convoyz

namespace Go.Abs.Convoyz
open Go Go.Abs

/-! ### What a check says -/
theorem chk_num {c : Convoy} (h : chkM c = 0) : numM c = 0 := by
  unfold chkM at h
  split at h
  · rename_i q; exact absurd h q
  · rename_i q; simpa using q
theorem chk_ord {c : Convoy} (h : chkM c = 0) : anyI (dupP c) 0 c.Mates = false ∧ anyI (ordP c) 0 c.Mates = false := by
  have n := chk_num h
  unfold chkM at h
  rw [if_neg (by rw [n]; decide)] at h
  split at h
  · rename_i q; exact absurd h q
  · rename_i q
    unfold ordM at q
    split at q
    · exact absurd q (by decide)
    · split at q
      · exact absurd q (by decide)
      · rename_i a b; exact ⟨by simpa using a, by simpa using b⟩
theorem num_parts {c : Convoy} (h : numM c = 0) : (within c.Tick 0 1099511627776 = true ∧ within c.Gap 1 20000 = true) ∧ c.Mates.length ≠ 0 ∧ ¬ c.Mates.length + (if noGuest c.Guest_ then 0 else 1) > 8 ∧ (c.Mates.any fun m => !mateM m) = false ∧ (noGuest c.Guest_ || guestM c.Guest_) = true := by
  unfold numM at h
  by_cases h1 : (!within c.Tick 0 1099511627776 || !within c.Gap 1 20000) = true
  · rw [if_pos h1] at h; exact absurd h (by decide)
  rw [if_neg h1] at h
  by_cases h2 : c.Mates.length = 0
  · rw [if_pos h2] at h; exact absurd h (by decide)
  rw [if_neg h2] at h
  by_cases h3 : c.Mates.length + (if noGuest c.Guest_ then 0 else 1) > 8
  · rw [if_pos h3] at h; exact absurd h (by decide)
  rw [if_neg h3] at h
  by_cases h4 : ((c.Mates.any fun m => !mateM m) || !(noGuest c.Guest_ || guestM c.Guest_)) = true
  · rw [if_pos h4] at h; exact absurd h (by decide)
  rw [Bool.not_eq_true, Bool.or_eq_false_iff] at h1 h4
  exact ⟨by simpa using h1, h2, h3, h4.1, by have := h4.2; rwa [Bool.not_eq_false'] at this⟩
theorem num_len {c : Convoy} (h : numM c = 0) : 1 ≤ c.Mates.length ∧ c.Mates.length ≤ 8 := by
  have p := num_parts h
  have p1 := p.2.1
  have p2 := p.2.2.1
  omega
theorem num_mate {c : Convoy} (h : numM c = 0) {m : Mate} (hm : m ∈ c.Mates) : mateM m = true := by
  have p := (num_parts h).2.2.2.1
  rw [List.any_eq_false] at p
  simpa using p m hm
/-- The numbers of a mate. -/
structure MateB (m : Mate) : Prop where
  id : 1 ≤ m.ID ∧ m.ID ≤ 99
  s : 0 ≤ m.S ∧ m.S ≤ 1099511627776
  v : 0 ≤ m.V ∧ m.V ≤ 2000
  len : 300 ≤ m.Len ∧ m.Len ≤ 20000
  ahead : 0 ≤ m.Ahead ∧ m.Ahead ≤ 99
  ward : 0 ≤ m.Ward ∧ m.Ward ≤ 99
  untl : 0 ≤ m.Until ∧ m.Until ≤ 2199023255552
  guess : guessM m.Guess_ = true
  wguess : guessM m.WardGuess = true
theorem mateB_iff {m : Mate} : mateM m = true ↔ MateB m := by
  unfold mateM bodyM
  simp only [Bool.and_eq_true, within_iff]
  constructor
  · rintro ⟨⟨a, b, c, d⟩, e, f, g, h, i⟩; exact ⟨a, b, c, d, e, f, g, h, i⟩
  · rintro ⟨a, b, c, d, e, f, g, h, i⟩; exact ⟨⟨a, b, c, d⟩, e, f, g, h, i⟩
theorem chk_mate {c : Convoy} (h : chkM c = 0) {i : Nat} {m : Mate} (hm : c.Mates[i]? = some m) : MateB m := mateB_iff.1 (num_mate (chk_num h) (List.mem_of_getElem? hm))
/-- The next one is behind the rear of the one ahead. -/
theorem chk_next {c : Convoy} (h : chkM c = 0) {i : Nat} {k m : Mate} (hk : c.Mates[i]? = some k) (hm : c.Mates[i + 1]? = some m) : m.S < k.S - k.Len := by
  have := anyI_get (chk_ord h).2 (i + 1) m hm
  unfold ordP at this
  rw [Nat.zero_add, show decide (0 < i + 1) = true from decide_eq_true (by omega), Nat.add_sub_cancel, hk, Bool.true_and] at this
  have b := chk_mate h hk
  have b1 := b.s
  have b2 := b.len
  dsimp only at this
  rw [w64_id (by omega)] at this
  have := of_decide_eq_false this
  omega
theorem chk_desc {c : Convoy} (h : chkM c = 0) : ∀ (d i : Nat) {k m : Mate}, c.Mates[i]? = some k → c.Mates[i + d + 1]? = some m → m.S < k.S
  | 0, i, k, m, hk, hm => by
    have := chk_next h hk hm
    have := (chk_mate h hk).len
    omega
  | d + 1, i, k, m, hk, hm => by
    have hlt := get_lt hm
    have e := List.getElem?_eq_getElem (show i + d + 1 < c.Mates.length by omega)
    have a := chk_desc h d i hk e
    have b := chk_next h e (by rw [show i + d + 1 + 1 = i + (d + 1) + 1 by omega]; exact hm)
    have := (chk_mate h e).len
    omega

/-! ### Who has an ID -/
theorem ref09_find_eq (c : Convoy) (id : Int) (hl : c.Mates.length ≤ 1000000) : ref09_find c id = some (idxI (fun m => m.ID == id) c.Mates) := by
  unfold ref09_find
  rw [index_eq c.Mates (fun m => m.ID == id) (by omega) (fun i a h => by
    have := get_lt h
    unfold ref09_find_l1
    rw [show decide ((i : Int) < (c.Mates.length : Int)) = true from decide_eq_true (by omega), geti_some h]
    simp only [cond_true, Option.bind_some]
    cases (a.ID == id) <;> rfl) (by
    unfold ref09_find_l1
    simp)]
theorem idxI_lt {α : Type} (P : α → Bool) (l : List α) : idxI P l = -1 ∨ ∃ i : Nat, i < l.length ∧ idxI P l = (i : Int) := by
  unfold idxI
  cases h : l.findIdx? P with
  | none => exact .inl rfl
  | some i => exact .inr ⟨i, (List.findIdx?_eq_some_iff_getElem.1 h).1, rfl⟩

/-! ### Who is beside the guest -/
def besP (c : Convoy) (m : Mate) : Bool := decide (m.S ≤ c.Guest_.S)
def besM (c : Convoy) : Int × Int := match c.Mates.findIdx? (besP c) with | some i => ((i : Int) - 1, (i : Int)) | none => ((c.Mates.length : Int) - 1, -1)
theorem convoy_beside_eq (c : Convoy) (hl : c.Mates.length ≤ 1000000) : convoy_beside c = some (besM c) := by
  unfold convoy_beside slices_IndexFunc_Mate_Mate_convoy_beside_1b
  rw [index_eq c.Mates (besP c) (by omega) (fun i a h => by
    have := get_lt h
    unfold slices_IndexFunc_Mate_Mate_convoy_beside_1b_l1 convoy_beside_1_b
    rw [show decide ((i : Int) < (c.Mates.length : Int)) = true from decide_eq_true (by omega), geti_some h]
    simp only [cond_true, Option.bind_some]
    unfold besP
    cases decide (a.S ≤ c.Guest_.S) <;> rfl) (by
    unfold slices_IndexFunc_Mate_Mate_convoy_beside_1b_l1
    simp), Option.bind_some]
  unfold besM idxI
  cases h : c.Mates.findIdx? (besP c) with
  | none => dsimp only; rw [w64_id (by omega)]; rfl
  | some i =>
    have := (List.findIdx?_eq_some_iff_getElem.1 h).1
    dsimp only
    rw [show decide ((i : Int) < 0) = false from decide_eq_false (by omega), cond_false, w64_id (by omega)]
theorem bes_tail (c : Convoy) (hl : c.Mates.length ≤ 1000000) : ∀ (r : List Mate) (i : Nat) (a b : Int), c.Mates.drop i = r → 0 ≤ b → (∀ m ∈ r, m.S ≤ c.Guest_.S) → loop (ref09_beside_l1 c) (a, b, (i : Int)) = some (a, b) := by
  intro r
  induction r with
  | nil =>
    intro i a b hi _ _
    have := drop_nil hi
    refine loop_out ?_
    unfold ref09_beside_l1
    rw [show decide ((i : Int) < (c.Mates.length : Int)) = false from decide_eq_false (by omega)]; rfl
  | cons m r ih =>
    intro i a b hi hb h
    have hlt := drop_lt hi
    have hs : ref09_beside_l1 c (a, b, (i : Int)) = some (.go (a, b, ((i + 1 : Nat) : Int))) := by
      unfold ref09_beside_l1
      rw [show decide ((i : Int) < (c.Mates.length : Int)) = true from decide_eq_true (by omega)]
      dsimp only
      rw [geti_drop hi, w64_id (by omega), cond_true, Option.bind_some, show decide (m.S > c.Guest_.S) = false from decide_eq_false (by have := h m (by simp); omega), show decide (b < 0) = false from decide_eq_false (by omega)]
      rfl
    rw [loop_go hs]
    exact ih (i + 1) a b (drop_succ hi) hb fun x hx => h x (by simp [hx])
theorem bes_head (c : Convoy) (hl : c.Mates.length ≤ 1000000) (hd : ∀ (i j : Nat) k m, i < j → c.Mates[i]? = some k → c.Mates[j]? = some m → m.S < k.S) : ∀ (r : List Mate) (i : Nat), c.Mates.drop i = r → i ≤ c.Mates.length → loop (ref09_beside_l1 c) ((i : Int) - 1, -1, (i : Int)) = some (match r.findIdx? (besP c) with | some j => (((i + j : Nat) : Int) - 1, ((i + j : Nat) : Int)) | none => ((c.Mates.length : Int) - 1, -1)) := by
  intro r
  induction r with
  | nil =>
    intro i hi hil
    have := drop_nil hi
    obtain rfl : i = c.Mates.length := by omega
    refine loop_out ?_
    unfold ref09_beside_l1
    simp
  | cons m r ih =>
    intro i hi _
    have hlt := drop_lt hi
    have h0 : c.Mates[i]? = some m := by have := congrArg (fun z => z[0]?) hi; simpa using this
    rw [List.findIdx?_cons]
    by_cases hm : m.S ≤ c.Guest_.S
    · have hs : ref09_beside_l1 c ((i : Int) - 1, -1, (i : Int)) = some (.go ((i : Int) - 1, (i : Int), ((i + 1 : Nat) : Int))) := by
        unfold ref09_beside_l1
        rw [show decide ((i : Int) < (c.Mates.length : Int)) = true from decide_eq_true (by omega)]
        dsimp only
        rw [geti_drop hi, w64_id (by omega), cond_true, Option.bind_some, show decide (m.S > c.Guest_.S) = false from decide_eq_false (by omega)]
        rfl
      rw [loop_go hs, if_pos (by unfold besP; exact decide_eq_true hm), bes_tail c hl r (i + 1) _ _ (drop_succ hi) (by omega) ?_]
      · rfl
      · intro x hx
        obtain ⟨q, hq⟩ := List.mem_iff_getElem?.1 hx
        have e : c.Mates[i + 1 + q]? = some x := by
          have := drop_succ hi
          rw [← hq, ← this, List.getElem?_drop]
        have := hd i (i + 1 + q) m x (by omega) h0 e
        omega
    · have hs : ref09_beside_l1 c ((i : Int) - 1, -1, (i : Int)) = some (.go (((i + 1 : Nat) : Int) - 1, -1, ((i + 1 : Nat) : Int))) := by
        unfold ref09_beside_l1
        rw [show decide ((i : Int) < (c.Mates.length : Int)) = true from decide_eq_true (by omega)]
        dsimp only
        rw [geti_drop hi, w64_id (by omega), cond_true, Option.bind_some, show decide (m.S > c.Guest_.S) = true from decide_eq_true (by omega), show ((i + 1 : Nat) : Int) - 1 = (i : Int) by omega]
        rfl
      rw [loop_go hs, ih (i + 1) (drop_succ hi) (by omega), if_neg (by unfold besP; simpa using hm)]
      cases r.findIdx? (besP c) with
      | none => rfl
      | some j => simp only [Option.map_some]; rw [show i + 1 + j = i + (j + 1) by omega]
theorem ref09_beside_eq {c : Convoy} (h : chkM c = 0) : ref09_beside c = some (besM c) := by
  have n := num_len (chk_num h)
  unfold ref09_beside
  have := bes_head c (by omega) (fun i j k m hij hk hm => by
    obtain ⟨d, rfl⟩ : ∃ d, j = i + d + 1 := ⟨j - i - 1, by omega⟩
    exact chk_desc h d i hk hm) c.Mates 0 rfl (by omega)
  rw [show ((0 : Nat) : Int) - 1 = -1 from rfl, show ((0 : Nat) : Int) = 0 from rfl] at this
  rw [this, Option.bind_some]
  unfold besM
  cases c.Mates.findIdx? (besP c) with
  | none => rfl
  | some j => simp only [Nat.zero_add]
theorem besM_lt (c : Convoy) : (besM c).1 < (c.Mates.length : Int) ∧ -1 ≤ (besM c).1 ∧ ((besM c).2 = -1 ∨ ∃ j : Nat, j < c.Mates.length ∧ (besM c).2 = (j : Int)) := by
  unfold besM
  cases h : c.Mates.findIdx? (besP c) with
  | none => dsimp only; omega
  | some i =>
    have := (List.findIdx?_eq_some_iff_getElem.1 h).1
    dsimp only
    exact ⟨by omega, by omega, .inr ⟨i, this, rfl⟩⟩

/-! ### Sights -/
def noiseM (l : List Int) (i : Nat) (k : Int) : Int := match l[i]? with | some n => n % k | none => 0
theorem mod_eq (n : Int) {k : Int} (hk : 0 < k) (hk2 : k ≤ 1000) : ref09_mod n k = some (n % k) := (kit_Mod_eq hk (by omega)).1
def lookM (c : Convoy) (id : Int) (l : List Int) : Sight × Int :=
  if chkM c ≠ 0 then (⟨0, 0, 0, 0, 0⟩, chkM c)
  else match (if (id != 0 && id == c.Guest_.ID) then (besM c).1 else idxI (fun m => m.ID == id) c.Mates - 1) with
    | .negSucc _ => (⟨0, 0, 0, 0, 0⟩, 7)
    | .ofNat a => match c.Mates[a]? with
      | none => (⟨0, 0, 0, 0, 0⟩, 7)
      | some m => (⟨id, m.S - m.Len - noiseM l 0 101, m.S - m.Len + noiseM l 1 101, max 0 (m.V - noiseM l 2 6), min 2000 (m.V + noiseM l 3 6)⟩, 0)
theorem noise_bd (l : List Int) (i : Nat) {k : Int} (hk : 0 < k) : 0 ≤ noiseM l i k ∧ noiseM l i k < k := by
  unfold noiseM
  cases l[i]? with
  | none => exact ⟨Int.le_refl _, hk⟩
  | some n => exact ⟨Int.emod_nonneg _ (by omega), Int.emod_lt_of_pos _ hk⟩
theorem at_lt (c : Convoy) (id : Int) : ((if (id != 0 && id == c.Guest_.ID) then (besM c).1 else idxI (fun m => m.ID == id) c.Mates - 1)) < (c.Mates.length : Int) ∧ -2 ≤ ((if (id != 0 && id == c.Guest_.ID) then (besM c).1 else idxI (fun m => m.ID == id) c.Mates - 1)) := by
  split
  · have := besM_lt c; omega
  · rcases idxI_lt (fun m : Mate => m.ID == id) c.Mates with e | ⟨i, hi, e⟩ <;> rw [e] <;> omega
theorem four_eq (l : List Int) : (cond (true && (decide (0 < (l.length : Int)))) ((geti l 0).bind fun v4 => cond (true && (decide (1 < (l.length : Int)))) ((geti l 1).bind fun v5 => cond (true && (decide (2 < (l.length : Int)))) ((geti l 2).bind fun v6 => cond (true && (decide (3 < (l.length : Int)))) ((geti l 3).bind fun v7 => some (v4, v5, v6, v7)) (some (v4, v5, v6, 0))) (some (v4, v5, 0, 0))) (some (v4, 0, 0, 0))) (some (0, 0, 0, 0))) = some ((l[0]?).getD 0, (l[1]?).getD 0, (l[2]?).getD 0, (l[3]?).getD 0) := by
  match l with
  | [] => rfl
  | [a] => rfl
  | [a, b] => rfl
  | [a, b, c] => rfl
  | a :: b :: c :: d :: r =>
    have : ∀ n : Int, n ≤ 3 → decide (n < ((a :: b :: c :: d :: r).length : Int)) = true := fun n hn => decide_eq_true (by simp only [List.length_cons]; omega)
    rw [this 0 (by decide), this 1 (by decide), this 2 (by decide), this 3 (by decide)]
    rfl
theorem getD_mod (l : List Int) (i : Nat) (k : Int) : (l[i]?).getD 0 % k = noiseM l i k := by
  unfold noiseM
  cases l[i]? with
  | none => exact Int.zero_emod _
  | some n => rfl
theorem ref09_Look_eq (c : Convoy) (id : Int) (l : List Int) (hl : c.Mates.length ≤ 1000000) : ref09_Look c id l = some (lookM c id l) := by
  unfold ref09_Look lookM
  rw [ref09_Check_eq c hl, Option.bind_some]
  by_cases h : chkM c = 0
  · rw [if_neg (by rw [h]; decide), h, show ((0 : Int) != 0) = false from rfl, cond_false, ref09_find_eq _ _ hl, Option.bind_some, ref09_beside_eq h]
    have e : (cond ((id != 0) && (id == c.Guest_.ID)) ((some (besM c)).bind fun v3 => some v3.1) (some (w64 (idxI (fun m : Mate => m.ID == id) c.Mates - 1)))) = some (if (id != 0 && id == c.Guest_.ID) then (besM c).1 else idxI (fun m => m.ID == id) c.Mates - 1) := by
      cases ((id != 0) && (id == c.Guest_.ID))
      · rw [cond_false, w64_id (by rcases idxI_lt (fun m : Mate => m.ID == id) c.Mates with e | ⟨i, hi, e⟩ <;> rw [e] <;> omega)]; rfl
      · rfl
    rw [e, Option.bind_some]
    have b := at_lt c id
    generalize (if (id != 0 && id == c.Guest_.ID) then (besM c).1 else idxI (fun m => m.ID == id) c.Mates - 1) = a at b
    cases a with
    | negSucc n => rw [show decide (Int.negSucc n < 0) = true from decide_eq_true (by omega)]; rfl
    | ofNat n =>
      have hn : n < c.Mates.length := by have := b.1; rw [Int.ofNat_eq_natCast] at this; omega
      rw [Int.ofNat_eq_natCast, show decide ((n : Int) < 0) = false from decide_eq_false (by omega), cond_false, four_eq, Option.bind_some, geti_nat hn, Option.bind_some]
      dsimp only
      rw [List.getElem?_eq_getElem hn]
      dsimp only
      have B := chk_mate h (List.getElem?_eq_getElem hn)
      generalize c.Mates[n] = m at B
      have s1 := B.s
      have s2 := B.v
      have s3 := B.len
      have m0 := noise_bd l 0 (k := 101) (by decide)
      have m1 := noise_bd l 1 (k := 101) (by decide)
      have m2 := noise_bd l 2 (k := 6) (by decide)
      have m3 := noise_bd l 3 (k := 6) (by decide)
      simp only [ref09_rear_eq, Option.bind_some]
      rw [mod_eq _ (by decide) (by decide), mod_eq _ (by decide) (by decide), mod_eq _ (by decide) (by decide), mod_eq _ (by decide) (by decide), getD_mod, getD_mod, getD_mod, getD_mod]
      simp only [Option.bind_some]
      rw [w64_id (n := m.S - m.Len) (by omega), w64_id (by omega), w64_id (by omega), w64_id (by omega), w64_id (by omega), mm2_max, mm2_min]
  · rw [if_pos h, show (chkM c != 0) = true by simpa using h]; rfl

/-! ### The law -/
end Go.Abs.Convoyz
