/-
  Plain facts on the functions: what they compute, and that the law holds of it.
-/
import Derived.Test.YtdkgjoilcfoclaaFns4

set_option maxRecDepth 100000
set_option linter.unusedVariables false
namespace Go.Abs.Convoy
open Go Go.Abs
noncomputable def ref09_Age_l1 (p2 : Int) (x1 : (Int × Guess)) : Option (Stp (Int × Guess) Guess) :=
  cond ((decide (x1.1 < p2)) && (decide (x1.1 < 30))) (some (.go ((w64 (x1.1 + 1)), (Guess.mk (w64 (x1.2.R + (mm2 true 0 (w64 (x1.2.V - 90))))) (mm2 true 0 (w64 (x1.2.V - 90))))))) (some (.out x1.2))

noncomputable def ref09_Age (p1 : Guess) (p2 : Int) : Option Guess :=
  (ref09_sane [p1.R, p1.V]).bind fun v1 => cond (!v1) (some (Guess.mk 0 0)) ((loop (ref09_Age_l1 p2) (0, p1)).bind fun y1 => some y1)

noncomputable def kit_Mod64 (p1 : Int) (p2 : Int) : Option Int :=
  (remc p1 p2).bind fun v1 => cond (decide (v1 < 0)) (some (w64 (v1 + p2))) (some v1)
end Go.Abs.Convoy

namespace Go.Abs.Convoy
open Go Go.Abs
def convoy_withinc (p1 : Int) (p2 : Int) (p3 : Int) : Option Bool :=
  some ((decide (p2 ≤ p1)) && (decide (p1 ≤ p3)))
theorem convoy_within_le (p1 : Int) (p2 : Int) (p3 : Int) : Le (convoy_withinc p1 p2 p3) (convoy_within p1 p2 p3) := by
  unfold convoy_withinc convoy_within
  repeat' first | with_reducible exact Le.refl _ | with_reducible refine Le.bind ?_ fun _ => ?_ | with_reducible refine Le.cond ?_ ?_ | with_reducible refine Le.ite ?_ ?_ | with_reducible refine Le.thenS ?_ (fun _ => ?_) (fun _ => ?_) | with_reducible refine Le.loop (fun _ => ?_) _ | with_reducible refine Le.loopL (fun _ _ => ?_) _ _ | exact Le.refl _
def convoy_fairBodyc (p1 : Int) (p2 : Int) (p3 : Int) (p4 : Int) : Option Bool :=
  ((cond ((decide (p1 ≥ 1)) && (decide (p1 ≤ 99))) (convoy_withinc p2 0 1099511627776) (some default))).bind fun v1 => ((cond (((decide (p1 ≥ 1)) && (decide (p1 ≤ 99))) && v1) (convoy_withinc p3 0 2000) (some default))).bind fun v2 => ((cond ((((decide (p1 ≥ 1)) && (decide (p1 ≤ 99))) && v1) && v2) (convoy_withinc p4 300 20000) (some default))).bind fun v3 => some (((((decide (p1 ≥ 1)) && (decide (p1 ≤ 99))) && v1) && v2) && v3)
theorem convoy_fairBody_le (p1 : Int) (p2 : Int) (p3 : Int) (p4 : Int) : Le (convoy_fairBodyc p1 p2 p3 p4) (convoy_fairBody p1 p2 p3 p4) := by
  unfold convoy_fairBodyc convoy_fairBody
  repeat' first | with_reducible exact Le.refl _ | with_reducible exact convoy_within_le _ _ _ | with_reducible refine Le.bind ?_ fun _ => ?_ | with_reducible refine Le.cond ?_ ?_ | with_reducible refine Le.ite ?_ ?_ | with_reducible refine Le.thenS ?_ (fun _ => ?_) (fun _ => ?_) | with_reducible refine Le.loop (fun _ => ?_) _ | with_reducible refine Le.loopL (fun _ _ => ?_) _ _ | exact Le.refl _
def convoy_fairIDc (p1 : Int) : Option Bool :=
  some ((decide (p1 ≥ 0)) && (decide (p1 ≤ 99)))
theorem convoy_fairID_le (p1 : Int) : Le (convoy_fairIDc p1) (convoy_fairID p1) := by
  unfold convoy_fairIDc convoy_fairID
  repeat' first | with_reducible exact Le.refl _ | with_reducible refine Le.bind ?_ fun _ => ?_ | with_reducible refine Le.cond ?_ ?_ | with_reducible refine Le.ite ?_ ?_ | with_reducible refine Le.thenS ?_ (fun _ => ?_) (fun _ => ?_) | with_reducible refine Le.loop (fun _ => ?_) _ | with_reducible refine Le.loopL (fun _ _ => ?_) _ _ | exact Le.refl _
def convoy_fairGuessc (p1 : Guess) : Option Bool :=
  (convoy_withinc p1.R (-20000) 2199023255552).bind fun v1 => ((cond v1 (convoy_withinc p1.V 0 2000) (some default))).bind fun v2 => some (v1 && v2)
theorem convoy_fairGuess_le (p1 : Guess) : Le (convoy_fairGuessc p1) (convoy_fairGuess p1) := by
  unfold convoy_fairGuessc convoy_fairGuess
  repeat' first | with_reducible exact Le.refl _ | with_reducible exact convoy_within_le _ _ _ | with_reducible refine Le.bind ?_ fun _ => ?_ | with_reducible refine Le.cond ?_ ?_ | with_reducible refine Le.ite ?_ ?_ | with_reducible refine Le.thenS ?_ (fun _ => ?_) (fun _ => ?_) | with_reducible refine Le.loop (fun _ => ?_) _ | with_reducible refine Le.loopL (fun _ _ => ?_) _ _ | exact Le.refl _
def convoy_fairMatec (p1 : Mate) : Option Bool :=
  (convoy_fairBodyc p1.ID p1.S p1.V p1.Len).bind fun v1 => ((cond v1 (convoy_fairIDc p1.Ahead) (some default))).bind fun v2 => ((cond (v1 && v2) (convoy_fairIDc p1.Ward) (some default))).bind fun v3 => ((cond ((v1 && v2) && v3) (convoy_withinc p1.Until 0 2199023255552) (some default))).bind fun v4 => ((cond (((v1 && v2) && v3) && v4) (convoy_fairGuessc p1.Guess_) (some default))).bind fun v5 => ((cond ((((v1 && v2) && v3) && v4) && v5) (convoy_fairGuessc p1.WardGuess) (some default))).bind fun v6 => some (((((v1 && v2) && v3) && v4) && v5) && v6)
theorem convoy_fairMate_le (p1 : Mate) : Le (convoy_fairMatec p1) (convoy_fairMate p1) := by
  unfold convoy_fairMatec convoy_fairMate
  repeat' first | with_reducible exact Le.refl _ | with_reducible exact convoy_fairBody_le _ _ _ _ | with_reducible exact convoy_fairID_le _ | with_reducible exact convoy_within_le _ _ _ | with_reducible exact convoy_fairGuess_le _ | with_reducible refine Le.bind ?_ fun _ => ?_ | with_reducible refine Le.cond ?_ ?_ | with_reducible refine Le.ite ?_ ?_ | with_reducible refine Le.thenS ?_ (fun _ => ?_) (fun _ => ?_) | with_reducible refine Le.loop (fun _ => ?_) _ | with_reducible refine Le.loopL (fun _ _ => ?_) _ _ | exact Le.refl _
def convoy_numbers_1c (p1 : Mate) : Option Bool :=
  (convoy_fairMatec p1).bind fun v1 => some (!v1)
theorem convoy_numbers_1_le (p1 : Mate) : Le (convoy_numbers_1c p1) (convoy_numbers_1 p1) := by
  unfold convoy_numbers_1c convoy_numbers_1
  repeat' first | with_reducible exact Le.refl _ | with_reducible exact convoy_fairMate_le _ | with_reducible refine Le.bind ?_ fun _ => ?_ | with_reducible refine Le.cond ?_ ?_ | with_reducible refine Le.ite ?_ ?_ | with_reducible refine Le.thenS ?_ (fun _ => ?_) (fun _ => ?_) | with_reducible refine Le.loop (fun _ => ?_) _ | with_reducible refine Le.loopL (fun _ _ => ?_) _ _ | exact Le.refl _
def slices_IndexFunc_Mate_Mate_convoy_numbers_1_l1c (p1 : (List Mate)) (x1 : Int) : Option (Stp Int (Sum Unit Int)) :=
  cond (decide (x1 < (p1.length : Int))) ((geti p1 x1).bind fun v1 => (convoy_numbers_1c v1).bind fun v2 => cond v2 (some (.out (.inr x1))) (some (.go (w64 (x1 + 1))))) (some (.out (.inl ())))
theorem slices_IndexFunc_Mate_Mate_convoy_numbers_1_l1_le (p1 : (List Mate)) (x1 : Int) : Le (slices_IndexFunc_Mate_Mate_convoy_numbers_1_l1c p1 x1) (slices_IndexFunc_Mate_Mate_convoy_numbers_1_l1 p1 x1) := by
  unfold slices_IndexFunc_Mate_Mate_convoy_numbers_1_l1c slices_IndexFunc_Mate_Mate_convoy_numbers_1_l1
  repeat' first | with_reducible exact Le.refl _ | with_reducible exact convoy_numbers_1_le _ | with_reducible refine Le.bind ?_ fun _ => ?_ | with_reducible refine Le.cond ?_ ?_ | with_reducible refine Le.ite ?_ ?_ | with_reducible refine Le.thenS ?_ (fun _ => ?_) (fun _ => ?_) | with_reducible refine Le.loop (fun _ => ?_) _ | with_reducible refine Le.loopL (fun _ _ => ?_) _ _ | exact Le.refl _
def slices_IndexFunc_Mate_Mate_convoy_numbers_1c (p1 : (List Mate)) : Option Int :=
  thenS (loopF (slices_IndexFunc_Mate_Mate_convoy_numbers_1_l1c p1) 0) (fun _ => some (-1)) (fun r => some r)
theorem slices_IndexFunc_Mate_Mate_convoy_numbers_1_le (p1 : (List Mate)) : Le (slices_IndexFunc_Mate_Mate_convoy_numbers_1c p1) (slices_IndexFunc_Mate_Mate_convoy_numbers_1 p1) := by
  unfold slices_IndexFunc_Mate_Mate_convoy_numbers_1c slices_IndexFunc_Mate_Mate_convoy_numbers_1
  repeat' first | with_reducible exact Le.refl _ | with_reducible exact slices_IndexFunc_Mate_Mate_convoy_numbers_1_l1_le _ _ | with_reducible refine Le.bind ?_ fun _ => ?_ | with_reducible refine Le.cond ?_ ?_ | with_reducible refine Le.ite ?_ ?_ | with_reducible refine Le.thenS ?_ (fun _ => ?_) (fun _ => ?_) | with_reducible refine Le.loop (fun _ => ?_) _ | with_reducible refine Le.loopL (fun _ _ => ?_) _ _ | exact Le.refl _
def slices_ContainsFunc_Mate_Mate_convoy_numbers_1c (p1 : (List Mate)) : Option Bool :=
  (slices_IndexFunc_Mate_Mate_convoy_numbers_1c p1).bind fun v1 => some (decide (v1 ≥ 0))
theorem slices_ContainsFunc_Mate_Mate_convoy_numbers_1_le (p1 : (List Mate)) : Le (slices_ContainsFunc_Mate_Mate_convoy_numbers_1c p1) (slices_ContainsFunc_Mate_Mate_convoy_numbers_1 p1) := by
  unfold slices_ContainsFunc_Mate_Mate_convoy_numbers_1c slices_ContainsFunc_Mate_Mate_convoy_numbers_1
  repeat' first | with_reducible exact Le.refl _ | with_reducible exact slices_IndexFunc_Mate_Mate_convoy_numbers_1_le _ | with_reducible refine Le.bind ?_ fun _ => ?_ | with_reducible refine Le.cond ?_ ?_ | with_reducible refine Le.ite ?_ ?_ | with_reducible refine Le.thenS ?_ (fun _ => ?_) (fun _ => ?_) | with_reducible refine Le.loop (fun _ => ?_) _ | with_reducible refine Le.loopL (fun _ _ => ?_) _ _ | exact Le.refl _
def convoy_fairGuestc (p1 : Guest) : Option Bool :=
  cond (p1.ID == 0) (some (p1.ID == 0 && (p1.S == 0 && (p1.V == 0 && (p1.Len == 0 && (p1.End == 0 && (p1.Ahead == 0 && (p1.Guess_.R == 0 && (p1.Guess_.V == 0 && (p1.From == 0 && (p1.Until == 0 && true))))))))))) ((convoy_fairBodyc p1.ID p1.S p1.V p1.Len).bind fun v1 => ((cond v1 (convoy_fairIDc p1.Ahead) (some default))).bind fun v2 => ((cond (v1 && v2) (convoy_fairIDc p1.From) (some default))).bind fun v3 => ((cond ((v1 && v2) && v3) (convoy_withinc p1.Until 0 2199023255552) (some default))).bind fun v4 => ((cond (((v1 && v2) && v3) && v4) (convoy_withinc p1.End 0 1099511627776) (some default))).bind fun v5 => ((cond ((((v1 && v2) && v3) && v4) && v5) (convoy_fairGuessc p1.Guess_) (some default))).bind fun v6 => some (((((v1 && v2) && v3) && v4) && v5) && v6))
theorem convoy_fairGuest_le (p1 : Guest) : Le (convoy_fairGuestc p1) (convoy_fairGuest p1) := by
  unfold convoy_fairGuestc convoy_fairGuest
  repeat' first | with_reducible exact Le.refl _ | with_reducible exact convoy_fairBody_le _ _ _ _ | with_reducible exact convoy_fairID_le _ | with_reducible exact convoy_within_le _ _ _ | with_reducible exact convoy_fairGuess_le _ | with_reducible refine Le.bind ?_ fun _ => ?_ | with_reducible refine Le.cond ?_ ?_ | with_reducible refine Le.ite ?_ ?_ | with_reducible refine Le.thenS ?_ (fun _ => ?_) (fun _ => ?_) | with_reducible refine Le.loop (fun _ => ?_) _ | with_reducible refine Le.loopL (fun _ _ => ?_) _ _ | exact Le.refl _
def convoy_numbersc (p1 : Convoy) : Option Int :=
  (cond (!(p1.Guest_.ID == 0 && (p1.Guest_.S == 0 && (p1.Guest_.V == 0 && (p1.Guest_.Len == 0 && (p1.Guest_.End == 0 && (p1.Guest_.Ahead == 0 && (p1.Guest_.Guess_.R == 0 && (p1.Guest_.Guess_.V == 0 && (p1.Guest_.From == 0 && (p1.Guest_.Until == 0 && true))))))))))) (some (w64 ((p1.Mates.length : Int) + 1))) (some (p1.Mates.length : Int))).bind fun y1 => (convoy_withinc p1.Tick 0 1099511627776).bind fun v1 => ((cond (!(!v1)) (convoy_withinc p1.Gap 1 20000) (some default))).bind fun v2 => cond ((!v1) || (!v2)) (some 2) (cond ((p1.Mates.length : Int) == 0) (some 6) (cond (decide (y1 > 8)) (some 8) ((slices_ContainsFunc_Mate_Mate_convoy_numbers_1c p1.Mates).bind fun v3 => ((cond (!v3) (convoy_fairGuestc p1.Guest_) (some default))).bind fun v4 => cond (v3 || (!v4)) (some 2) (some 0))))
theorem convoy_numbers_le (p1 : Convoy) : Le (convoy_numbersc p1) (convoy_numbers p1) := by
  unfold convoy_numbersc convoy_numbers
  repeat' first | with_reducible exact Le.refl _ | with_reducible exact convoy_within_le _ _ _ | with_reducible exact slices_ContainsFunc_Mate_Mate_convoy_numbers_1_le _ | with_reducible exact convoy_fairGuest_le _ | with_reducible refine Le.bind ?_ fun _ => ?_ | with_reducible refine Le.cond ?_ ?_ | with_reducible refine Le.ite ?_ ?_ | with_reducible refine Le.thenS ?_ (fun _ => ?_) (fun _ => ?_) | with_reducible refine Le.loop (fun _ => ?_) _ | with_reducible refine Le.loopL (fun _ _ => ?_) _ _ | exact Le.refl _
def convoy_rearc (p1 : Mate) : Option Int :=
  some (w64 (p1.S - p1.Len))
theorem convoy_rear_le (p1 : Mate) : Le (convoy_rearc p1) (convoy_rear p1) := by
  unfold convoy_rearc convoy_rear
  repeat' first | with_reducible exact Le.refl _ | with_reducible refine Le.bind ?_ fun _ => ?_ | with_reducible refine Le.cond ?_ ?_ | with_reducible refine Le.ite ?_ ?_ | with_reducible refine Le.thenS ?_ (fun _ => ?_) (fun _ => ?_) | with_reducible refine Le.loop (fun _ => ?_) _ | with_reducible refine Le.loopL (fun _ _ => ?_) _ _ | exact Le.refl _
def convoy_orders_l2c (p1 : Convoy) (x2 : Int) : Option (Stp Int (Sum Unit Int)) :=
  cond (decide (x2 < (p1.Mates.length : Int))) ((geti p1.Mates x2).bind fun v2 => ((cond (decide (x2 > 0)) (geti p1.Mates (w64 (x2 - 1))) (some default))).bind fun v3 => ((cond (decide (x2 > 0)) (convoy_rearc v3) (some default))).bind fun v4 => cond ((decide (x2 > 0)) && (decide (v2.S ≥ v4))) (some (.out (.inr 11))) (some (.go (w64 (x2 + 1))))) (some (.out (.inl ())))
theorem convoy_orders_l2_le (p1 : Convoy) (x2 : Int) : Le (convoy_orders_l2c p1 x2) (convoy_orders_l2 p1 x2) := by
  unfold convoy_orders_l2c convoy_orders_l2
  repeat' first | with_reducible exact Le.refl _ | with_reducible exact convoy_rear_le _ | with_reducible refine Le.bind ?_ fun _ => ?_ | with_reducible refine Le.cond ?_ ?_ | with_reducible refine Le.ite ?_ ?_ | with_reducible refine Le.thenS ?_ (fun _ => ?_) (fun _ => ?_) | with_reducible refine Le.loop (fun _ => ?_) _ | with_reducible refine Le.loopL (fun _ _ => ?_) _ _ | exact Le.refl _
def convoy_orders_l1c (p1 : Convoy) (x1 : (Int × (List Int))) : Option (Stp (Int × (List Int)) (Sum Unit Int)) :=
  cond (decide (x1.1 < (p1.Mates.length : Int))) ((geti p1.Mates x1.1).bind fun v1 => cond (x1.2.contains v1.ID) (some (.out (.inr 9))) (some (.go ((w64 (x1.1 + 1)), (insm x1.2 v1.ID))))) (some (.out (.inl ())))
theorem convoy_orders_l1_le (p1 : Convoy) (x1 : (Int × (List Int))) : Le (convoy_orders_l1c p1 x1) (convoy_orders_l1 p1 x1) := by
  unfold convoy_orders_l1c convoy_orders_l1
  repeat' first | with_reducible exact Le.refl _ | with_reducible refine Le.bind ?_ fun _ => ?_ | with_reducible refine Le.cond ?_ ?_ | with_reducible refine Le.ite ?_ ?_ | with_reducible refine Le.thenS ?_ (fun _ => ?_) (fun _ => ?_) | with_reducible refine Le.loop (fun _ => ?_) _ | with_reducible refine Le.loopL (fun _ _ => ?_) _ _ | exact Le.refl _
def convoy_ordersc (p1 : Convoy) : Option Int :=
  thenS (loopF (convoy_orders_l1c p1) (0, (insm ([] : List Int) p1.Guest_.ID))) (fun _ => thenS (loopF (convoy_orders_l2c p1) 0) (fun _ => some 0) (fun r => some r)) (fun r => some r)
theorem convoy_orders_le (p1 : Convoy) : Le (convoy_ordersc p1) (convoy_orders p1) := by
  unfold convoy_ordersc convoy_orders
  repeat' first | with_reducible exact Le.refl _ | with_reducible exact convoy_orders_l1_le _ _ | with_reducible exact convoy_orders_l2_le _ _ | with_reducible refine Le.bind ?_ fun _ => ?_ | with_reducible refine Le.cond ?_ ?_ | with_reducible refine Le.ite ?_ ?_ | with_reducible refine Le.thenS ?_ (fun _ => ?_) (fun _ => ?_) | with_reducible refine Le.loop (fun _ => ?_) _ | with_reducible refine Le.loopL (fun _ _ => ?_) _ _ | exact Le.refl _
def convoy_sane_1c (p1 : Int) : Option Bool :=
  (convoy_withinc p1 (-4398046511104) 4398046511104).bind fun v1 => some (!v1)
theorem convoy_sane_1_le (p1 : Int) : Le (convoy_sane_1c p1) (convoy_sane_1 p1) := by
  unfold convoy_sane_1c convoy_sane_1
  repeat' first | with_reducible exact Le.refl _ | with_reducible exact convoy_within_le _ _ _ | with_reducible refine Le.bind ?_ fun _ => ?_ | with_reducible refine Le.cond ?_ ?_ | with_reducible refine Le.ite ?_ ?_ | with_reducible refine Le.thenS ?_ (fun _ => ?_) (fun _ => ?_) | with_reducible refine Le.loop (fun _ => ?_) _ | with_reducible refine Le.loopL (fun _ _ => ?_) _ _ | exact Le.refl _
def slices_IndexFunc_int64_int64_convoy_sane_1_l1c (p1 : (List Int)) (x1 : Int) : Option (Stp Int (Sum Unit Int)) :=
  cond (decide (x1 < (p1.length : Int))) ((geti p1 x1).bind fun v1 => (convoy_sane_1c v1).bind fun v2 => cond v2 (some (.out (.inr x1))) (some (.go (w64 (x1 + 1))))) (some (.out (.inl ())))
theorem slices_IndexFunc_int64_int64_convoy_sane_1_l1_le (p1 : (List Int)) (x1 : Int) : Le (slices_IndexFunc_int64_int64_convoy_sane_1_l1c p1 x1) (slices_IndexFunc_int64_int64_convoy_sane_1_l1 p1 x1) := by
  unfold slices_IndexFunc_int64_int64_convoy_sane_1_l1c slices_IndexFunc_int64_int64_convoy_sane_1_l1
  repeat' first | with_reducible exact Le.refl _ | with_reducible exact convoy_sane_1_le _ | with_reducible refine Le.bind ?_ fun _ => ?_ | with_reducible refine Le.cond ?_ ?_ | with_reducible refine Le.ite ?_ ?_ | with_reducible refine Le.thenS ?_ (fun _ => ?_) (fun _ => ?_) | with_reducible refine Le.loop (fun _ => ?_) _ | with_reducible refine Le.loopL (fun _ _ => ?_) _ _ | exact Le.refl _
def slices_IndexFunc_int64_int64_convoy_sane_1c (p1 : (List Int)) : Option Int :=
  thenS (loopF (slices_IndexFunc_int64_int64_convoy_sane_1_l1c p1) 0) (fun _ => some (-1)) (fun r => some r)
theorem slices_IndexFunc_int64_int64_convoy_sane_1_le (p1 : (List Int)) : Le (slices_IndexFunc_int64_int64_convoy_sane_1c p1) (slices_IndexFunc_int64_int64_convoy_sane_1 p1) := by
  unfold slices_IndexFunc_int64_int64_convoy_sane_1c slices_IndexFunc_int64_int64_convoy_sane_1
  repeat' first | with_reducible exact Le.refl _ | with_reducible exact slices_IndexFunc_int64_int64_convoy_sane_1_l1_le _ _ | with_reducible refine Le.bind ?_ fun _ => ?_ | with_reducible refine Le.cond ?_ ?_ | with_reducible refine Le.ite ?_ ?_ | with_reducible refine Le.thenS ?_ (fun _ => ?_) (fun _ => ?_) | with_reducible refine Le.loop (fun _ => ?_) _ | with_reducible refine Le.loopL (fun _ _ => ?_) _ _ | exact Le.refl _
def slices_ContainsFunc_int64_int64_convoy_sane_1c (p1 : (List Int)) : Option Bool :=
  (slices_IndexFunc_int64_int64_convoy_sane_1c p1).bind fun v1 => some (decide (v1 ≥ 0))
theorem slices_ContainsFunc_int64_int64_convoy_sane_1_le (p1 : (List Int)) : Le (slices_ContainsFunc_int64_int64_convoy_sane_1c p1) (slices_ContainsFunc_int64_int64_convoy_sane_1 p1) := by
  unfold slices_ContainsFunc_int64_int64_convoy_sane_1c slices_ContainsFunc_int64_int64_convoy_sane_1
  repeat' first | with_reducible exact Le.refl _ | with_reducible exact slices_IndexFunc_int64_int64_convoy_sane_1_le _ | with_reducible refine Le.bind ?_ fun _ => ?_ | with_reducible refine Le.cond ?_ ?_ | with_reducible refine Le.ite ?_ ?_ | with_reducible refine Le.thenS ?_ (fun _ => ?_) (fun _ => ?_) | with_reducible refine Le.loop (fun _ => ?_) _ | with_reducible refine Le.loopL (fun _ _ => ?_) _ _ | exact Le.refl _
def convoy_sanec (p1 : (List Int)) : Option Bool :=
  (slices_ContainsFunc_int64_int64_convoy_sane_1c p1).bind fun v1 => some (!v1)
theorem convoy_sane_le (p1 : (List Int)) : Le (convoy_sanec p1) (convoy_sane p1) := by
  unfold convoy_sanec convoy_sane
  repeat' first | with_reducible exact Le.refl _ | with_reducible exact slices_ContainsFunc_int64_int64_convoy_sane_1_le _ | with_reducible refine Le.bind ?_ fun _ => ?_ | with_reducible refine Le.cond ?_ ?_ | with_reducible refine Le.ite ?_ ?_ | with_reducible refine Le.thenS ?_ (fun _ => ?_) (fun _ => ?_) | with_reducible refine Le.loop (fun _ => ?_) _ | with_reducible refine Le.loopL (fun _ _ => ?_) _ _ | exact Le.refl _
def world_Stopc (p1 : Int) (p2 : Int) : Option Int :=
  cond ((decide (p1 < 1)) || (decide (p2 < 1))) (some 0) ((quoc .i64 (w64 ((mm2 false p1 1000000) - 1)) (mm2 false p2 1000000)).bind fun v1 => some (w64 ((w64 (v1 * (mm2 false p1 1000000))) - (w64 ((mm2 false p2 1000000) * (w64 ((w64 (v1 * (w64 (v1 + 1)))).tdiv 2)))))))
theorem world_Stop_le (p1 : Int) (p2 : Int) : Le (world_Stopc p1 p2) (world_Stop p1 p2) := by
  unfold world_Stopc world_Stop
  repeat' first | with_reducible exact Le.refl _ | with_reducible refine Le.bind ?_ fun _ => ?_ | with_reducible refine Le.cond ?_ ?_ | with_reducible refine Le.ite ?_ ?_ | with_reducible refine Le.thenS ?_ (fun _ => ?_) (fun _ => ?_) | with_reducible refine Le.loop (fun _ => ?_) _ | with_reducible refine Le.loopL (fun _ _ => ?_) _ _ | exact Le.refl _
def convoy_stopc (p1 : Int) : Option Int :=
  (world_Stopc p1 90).bind fun v1 => some v1
theorem convoy_stop_le (p1 : Int) : Le (convoy_stopc p1) (convoy_stop p1) := by
  unfold convoy_stopc convoy_stop
  repeat' first | with_reducible exact Le.refl _ | with_reducible exact world_Stop_le _ _ | with_reducible refine Le.bind ?_ fun _ => ?_ | with_reducible refine Le.cond ?_ ?_ | with_reducible refine Le.ite ?_ ?_ | with_reducible refine Le.thenS ?_ (fun _ => ?_) (fun _ => ?_) | with_reducible refine Le.loop (fun _ => ?_) _ | with_reducible refine Le.loopL (fun _ _ => ?_) _ _ | exact Le.refl _
def convoy_endc (p1 : Guess) : Option Int :=
  (convoy_stopc p1.V).bind fun v1 => some (w64 (p1.R + v1))
theorem convoy_end_le (p1 : Guess) : Le (convoy_endc p1) (convoy_end p1) := by
  unfold convoy_endc convoy_end
  repeat' first | with_reducible exact Le.refl _ | with_reducible exact convoy_stop_le _ | with_reducible refine Le.bind ?_ fun _ => ?_ | with_reducible refine Le.cond ?_ ?_ | with_reducible refine Le.ite ?_ ?_ | with_reducible refine Le.thenS ?_ (fun _ => ?_) (fun _ => ?_) | with_reducible refine Le.loop (fun _ => ?_) _ | with_reducible refine Le.loopL (fun _ _ => ?_) _ _ | exact Le.refl _
def convoy_Safec (p1 : Int) (p2 : Int) (p3 : Int) (p4 : Guess) : Option Bool :=
  (convoy_sanec [p1, p2, p3, p4.R, p4.V]).bind fun v1 => ((cond (v1 && (decide (p1 ≤ (w64 (p4.R - p3))))) (convoy_stopc p2) (some default))).bind fun v2 => ((cond (v1 && (decide (p1 ≤ (w64 (p4.R - p3))))) (convoy_endc p4) (some default))).bind fun v3 => some ((v1 && (decide (p1 ≤ (w64 (p4.R - p3))))) && (decide ((w64 (p1 + v2)) ≤ (w64 (v3 - p3)))))
theorem convoy_Safe_le (p1 : Int) (p2 : Int) (p3 : Int) (p4 : Guess) : Le (convoy_Safec p1 p2 p3 p4) (convoy_Safe p1 p2 p3 p4) := by
  unfold convoy_Safec convoy_Safe
  repeat' first | with_reducible exact Le.refl _ | with_reducible exact convoy_sane_le _ | with_reducible exact convoy_stop_le _ | with_reducible exact convoy_end_le _ | with_reducible refine Le.bind ?_ fun _ => ?_ | with_reducible refine Le.cond ?_ ?_ | with_reducible refine Le.ite ?_ ?_ | with_reducible refine Le.thenS ?_ (fun _ => ?_) (fun _ => ?_) | with_reducible refine Le.loop (fun _ => ?_) _ | with_reducible refine Le.loopL (fun _ _ => ?_) _ _ | exact Le.refl _
def convoy_keepsc (p1 : Int) (p2 : Mate) (p3 : Int) (p4 : Int) (p5 : Guess) (p6 : Guess) : Option Bool :=
  ((cond (!(p2.Ahead == 0)) (convoy_Safec p3 p4 p1 p5) (some default))).bind fun v1 => ((cond (((p2.Ahead == 0) || v1) && (!(p2.Until == 0))) (convoy_Safec p3 p4 p1 p6) (some default))).bind fun v2 => some (((p2.Ahead == 0) || v1) && ((p2.Until == 0) || v2))
theorem convoy_keeps_le (p1 : Int) (p2 : Mate) (p3 : Int) (p4 : Int) (p5 : Guess) (p6 : Guess) : Le (convoy_keepsc p1 p2 p3 p4 p5 p6) (convoy_keeps p1 p2 p3 p4 p5 p6) := by
  unfold convoy_keepsc convoy_keeps
  repeat' first | with_reducible exact Le.refl _ | with_reducible exact convoy_Safe_le _ _ _ _ | with_reducible refine Le.bind ?_ fun _ => ?_ | with_reducible refine Le.cond ?_ ?_ | with_reducible refine Le.ite ?_ ?_ | with_reducible refine Le.thenS ?_ (fun _ => ?_) (fun _ => ?_) | with_reducible refine Le.loop (fun _ => ?_) _ | with_reducible refine Le.loopL (fun _ _ => ?_) _ _ | exact Le.refl _
def convoy_Check_1_bc (p1 : Mate) (p2 : Convoy) : Option Bool :=
  (convoy_keepsc p2.Gap p1 p1.S p1.V p1.Guess_ p1.WardGuess).bind fun v1 => some (!v1)
theorem convoy_Check_1_b_le (p1 : Mate) (p2 : Convoy) : Le (convoy_Check_1_bc p1 p2) (convoy_Check_1_b p1 p2) := by
  unfold convoy_Check_1_bc convoy_Check_1_b
  repeat' first | with_reducible exact Le.refl _ | with_reducible exact convoy_keeps_le _ _ _ _ _ _ | with_reducible refine Le.bind ?_ fun _ => ?_ | with_reducible refine Le.cond ?_ ?_ | with_reducible refine Le.ite ?_ ?_ | with_reducible refine Le.thenS ?_ (fun _ => ?_) (fun _ => ?_) | with_reducible refine Le.loop (fun _ => ?_) _ | with_reducible refine Le.loopL (fun _ _ => ?_) _ _ | exact Le.refl _
def slices_IndexFunc_Mate_Mate_convoy_Check_1b_l1c (p1 : (List Mate)) (p2 : Convoy) (x1 : Int) : Option (Stp Int (Sum Unit Int)) :=
  cond (decide (x1 < (p1.length : Int))) ((geti p1 x1).bind fun v1 => (convoy_Check_1_bc v1 p2).bind fun v2 => cond v2 (some (.out (.inr x1))) (some (.go (w64 (x1 + 1))))) (some (.out (.inl ())))
theorem slices_IndexFunc_Mate_Mate_convoy_Check_1b_l1_le (p1 : (List Mate)) (p2 : Convoy) (x1 : Int) : Le (slices_IndexFunc_Mate_Mate_convoy_Check_1b_l1c p1 p2 x1) (slices_IndexFunc_Mate_Mate_convoy_Check_1b_l1 p1 p2 x1) := by
  unfold slices_IndexFunc_Mate_Mate_convoy_Check_1b_l1c slices_IndexFunc_Mate_Mate_convoy_Check_1b_l1
  repeat' first | with_reducible exact Le.refl _ | with_reducible exact convoy_Check_1_b_le _ _ | with_reducible refine Le.bind ?_ fun _ => ?_ | with_reducible refine Le.cond ?_ ?_ | with_reducible refine Le.ite ?_ ?_ | with_reducible refine Le.thenS ?_ (fun _ => ?_) (fun _ => ?_) | with_reducible refine Le.loop (fun _ => ?_) _ | with_reducible refine Le.loopL (fun _ _ => ?_) _ _ | exact Le.refl _
def slices_IndexFunc_Mate_Mate_convoy_Check_1bc (p1 : (List Mate)) (p2 : Convoy) : Option Int :=
  thenS (loopF (slices_IndexFunc_Mate_Mate_convoy_Check_1b_l1c p1 p2) 0) (fun _ => some (-1)) (fun r => some r)
theorem slices_IndexFunc_Mate_Mate_convoy_Check_1b_le (p1 : (List Mate)) (p2 : Convoy) : Le (slices_IndexFunc_Mate_Mate_convoy_Check_1bc p1 p2) (slices_IndexFunc_Mate_Mate_convoy_Check_1b p1 p2) := by
  unfold slices_IndexFunc_Mate_Mate_convoy_Check_1bc slices_IndexFunc_Mate_Mate_convoy_Check_1b
  repeat' first | with_reducible exact Le.refl _ | with_reducible exact slices_IndexFunc_Mate_Mate_convoy_Check_1b_l1_le _ _ _ | with_reducible refine Le.bind ?_ fun _ => ?_ | with_reducible refine Le.cond ?_ ?_ | with_reducible refine Le.ite ?_ ?_ | with_reducible refine Le.thenS ?_ (fun _ => ?_) (fun _ => ?_) | with_reducible refine Le.loop (fun _ => ?_) _ | with_reducible refine Le.loopL (fun _ _ => ?_) _ _ | exact Le.refl _
def slices_ContainsFunc_Mate_Mate_convoy_Check_1bc (p1 : (List Mate)) (p2 : Convoy) : Option Bool :=
  (slices_IndexFunc_Mate_Mate_convoy_Check_1bc p1 p2).bind fun v1 => some (decide (v1 ≥ 0))
theorem slices_ContainsFunc_Mate_Mate_convoy_Check_1b_le (p1 : (List Mate)) (p2 : Convoy) : Le (slices_ContainsFunc_Mate_Mate_convoy_Check_1bc p1 p2) (slices_ContainsFunc_Mate_Mate_convoy_Check_1b p1 p2) := by
  unfold slices_ContainsFunc_Mate_Mate_convoy_Check_1bc slices_ContainsFunc_Mate_Mate_convoy_Check_1b
  repeat' first | with_reducible exact Le.refl _ | with_reducible exact slices_IndexFunc_Mate_Mate_convoy_Check_1b_le _ _ | with_reducible refine Le.bind ?_ fun _ => ?_ | with_reducible refine Le.cond ?_ ?_ | with_reducible refine Le.ite ?_ ?_ | with_reducible refine Le.thenS ?_ (fun _ => ?_) (fun _ => ?_) | with_reducible refine Le.loop (fun _ => ?_) _ | with_reducible refine Le.loopL (fun _ _ => ?_) _ _ | exact Le.refl _
def convoy_Check_l1c (p1 : Convoy) (x1 : Int) : Option (Stp Int (Sum Unit Int)) :=
  cond (decide (x1 < (p1.Mates.length : Int))) ((geti p1.Mates x1).bind fun v3 => cond ((((x1 == 0) && (v3.Ahead != 0)) || (((decide (x1 > 0)) && (v3.Until == 0)) && (v3.Ahead == 0))) || ((v3.Ward == 0) && (v3.Until != 0))) (some (.out (.inr 10))) (some (.go (w64 (x1 + 1))))) (some (.out (.inl ())))
theorem convoy_Check_l1_le (p1 : Convoy) (x1 : Int) : Le (convoy_Check_l1c p1 x1) (convoy_Check_l1 p1 x1) := by
  unfold convoy_Check_l1c convoy_Check_l1
  repeat' first | with_reducible exact Le.refl _ | with_reducible refine Le.bind ?_ fun _ => ?_ | with_reducible refine Le.cond ?_ ?_ | with_reducible refine Le.ite ?_ ?_ | with_reducible refine Le.thenS ?_ (fun _ => ?_) (fun _ => ?_) | with_reducible refine Le.loop (fun _ => ?_) _ | with_reducible refine Le.loopL (fun _ _ => ?_) _ _ | exact Le.refl _
def convoy_Checkc (p1 : Convoy) : Option Int :=
  (convoy_numbersc p1).bind fun v1 => cond (v1 != 0) (some v1) ((convoy_ordersc p1).bind fun v2 => cond (v2 != 0) (some v2) (thenS (loopF (convoy_Check_l1c p1) 0) (fun _ => (slices_ContainsFunc_Mate_Mate_convoy_Check_1bc p1.Mates p1).bind fun v4 => ((cond ((!v4) && (p1.Guest_.ID != 0)) (convoy_stopc p1.Guest_.V) (some default))).bind fun v5 => cond (v4 || ((p1.Guest_.ID != 0) && (decide ((w64 (p1.Guest_.S + v5)) ≥ p1.Guest_.End)))) (some 12) (some 0)) (fun r => some r)))
theorem convoy_Check_le (p1 : Convoy) : Le (convoy_Checkc p1) (convoy_Check p1) := by
  unfold convoy_Checkc convoy_Check
  repeat' first | with_reducible exact Le.refl _ | with_reducible exact convoy_numbers_le _ | with_reducible exact convoy_orders_le _ | with_reducible exact convoy_Check_l1_le _ _ | with_reducible exact slices_ContainsFunc_Mate_Mate_convoy_Check_1b_le _ _ | with_reducible exact convoy_stop_le _ | with_reducible refine Le.bind ?_ fun _ => ?_ | with_reducible refine Le.cond ?_ ?_ | with_reducible refine Le.ite ?_ ?_ | with_reducible refine Le.thenS ?_ (fun _ => ?_) (fun _ => ?_) | with_reducible refine Le.loop (fun _ => ?_) _ | with_reducible refine Le.loopL (fun _ _ => ?_) _ _ | exact Le.refl _
def convoy_New_l1c (p2 : (List Mate)) (x1 : (Int × Convoy)) : Option (Stp (Int × Convoy) Convoy) :=
  cond (decide (x1.1 < (p2.length : Int))) ((geti p2 x1.1).bind fun v1 => (cond (decide (x1.1 > 0)) ((geti p2 (w64 (x1.1 - 1))).bind fun v2 => (geti p2 (w64 (x1.1 - 1))).bind fun v3 => (geti p2 (w64 (x1.1 - 1))).bind fun v4 => some (Mate.mk (w64 (x1.1 + 1)) v1.S v1.V v1.Len x1.1 (Guess.mk (w64 (v2.S - v3.Len)) v4.V) true 0 (Guess.mk 0 0) 0)) (some (Mate.mk (w64 (x1.1 + 1)) v1.S v1.V v1.Len 0 (Guess.mk 0 0) true 0 (Guess.mk 0 0) 0))).bind fun y2 => (appc x1.2.Mates [y2]).bind fun v5 => some (.go ((w64 (x1.1 + 1)), (Convoy.mk x1.2.Tick x1.2.Gap v5 x1.2.Guest_)))) (some (.out x1.2))
theorem convoy_New_l1_le (p2 : (List Mate)) (x1 : (Int × Convoy)) : Le (convoy_New_l1c p2 x1) (convoy_New_l1 p2 x1) := by
  unfold convoy_New_l1c convoy_New_l1
  repeat' first | with_reducible exact Le.refl _ | with_reducible refine Le.bind ?_ fun _ => ?_ | with_reducible refine Le.cond ?_ ?_ | with_reducible refine Le.ite ?_ ?_ | with_reducible refine Le.thenS ?_ (fun _ => ?_) (fun _ => ?_) | with_reducible refine Le.loop (fun _ => ?_) _ | with_reducible refine Le.loopL (fun _ _ => ?_) _ _ | exact Le.refl _
def convoy_Newc (p1 : Int) (p2 : (List Mate)) : Option (Convoy × Int) :=
  (loopF (convoy_New_l1c p2) (0, (Convoy.mk 0 p1 [] (Guest.mk 0 0 0 0 0 0 (Guess.mk 0 0) 0 0)))).bind fun y1 => (convoy_Checkc y1).bind fun v6 => cond (v6 != 0) (some ((Convoy.mk 0 0 [] (Guest.mk 0 0 0 0 0 0 (Guess.mk 0 0) 0 0)), v6)) (some (y1, 0))
theorem convoy_New_le (p1 : Int) (p2 : (List Mate)) : Le (convoy_Newc p1 p2) (convoy_New p1 p2) := by
  unfold convoy_Newc convoy_New
  repeat' first | with_reducible exact Le.refl _ | with_reducible exact convoy_New_l1_le _ _ | with_reducible exact convoy_Check_le _ | with_reducible refine Le.bind ?_ fun _ => ?_ | with_reducible refine Le.cond ?_ ?_ | with_reducible refine Le.ite ?_ ?_ | with_reducible refine Le.thenS ?_ (fun _ => ?_) (fun _ => ?_) | with_reducible refine Le.loop (fun _ => ?_) _ | with_reducible refine Le.loopL (fun _ _ => ?_) _ _ | exact Le.refl _
def law09_shownc : Option Convoy :=
  (convoy_Newc 1000 [(Mate.mk 0 50000 1000 4000 0 (Guess.mk 0 0) false 0 (Guess.mk 0 0) 0), (Mate.mk 0 40000 1000 4000 0 (Guess.mk 0 0) false 0 (Guess.mk 0 0) 0)]).bind fun v1 => cond ((v1.2 != 0) || ((v1.1.Mates.length : Int) != 2)) (some (Convoy.mk 0 0 [] (Guest.mk 0 0 0 0 0 0 (Guess.mk 0 0) 0 0))) (some v1.1)
theorem law09_shown_le : Le (law09_shownc) (law09_shown) := by
  unfold law09_shownc law09_shown
  repeat' first | with_reducible exact Le.refl _ | with_reducible exact convoy_New_le _ _ | with_reducible refine Le.bind ?_ fun _ => ?_ | with_reducible refine Le.cond ?_ ?_ | with_reducible refine Le.ite ?_ ?_ | with_reducible refine Le.thenS ?_ (fun _ => ?_) (fun _ => ?_) | with_reducible refine Le.loop (fun _ => ?_) _ | with_reducible refine Le.loopL (fun _ _ => ?_) _ _ | exact Le.refl _
def convoy_Age_l1c (p2 : Int) (x1 : (Int × Guess)) : Option (Stp (Int × Guess) Guess) :=
  cond (decide (x1.1 < (mm2 true 0 (mm2 false p2 30)))) (some (.go ((w64 (x1.1 + 1)), (Guess.mk (w64 (x1.2.R + (mm2 true 0 (w64 (x1.2.V - 90))))) (mm2 true 0 (w64 (x1.2.V - 90))))))) (some (.out x1.2))
theorem convoy_Age_l1_le (p2 : Int) (x1 : (Int × Guess)) : Le (convoy_Age_l1c p2 x1) (convoy_Age_l1 p2 x1) := by
  unfold convoy_Age_l1c convoy_Age_l1
  repeat' first | with_reducible exact Le.refl _ | with_reducible refine Le.bind ?_ fun _ => ?_ | with_reducible refine Le.cond ?_ ?_ | with_reducible refine Le.ite ?_ ?_ | with_reducible refine Le.thenS ?_ (fun _ => ?_) (fun _ => ?_) | with_reducible refine Le.loop (fun _ => ?_) _ | with_reducible refine Le.loopL (fun _ _ => ?_) _ _ | exact Le.refl _
def convoy_Agec (p1 : Guess) (p2 : Int) : Option Guess :=
  (convoy_sanec [p1.R, p1.V]).bind fun v1 => cond (!v1) (some (Guess.mk 0 0)) ((loopF (convoy_Age_l1c p2) (0, p1)).bind fun y1 => some y1)
theorem convoy_Age_le (p1 : Guess) (p2 : Int) : Le (convoy_Agec p1 p2) (convoy_Age p1 p2) := by
  unfold convoy_Agec convoy_Age
  repeat' first | with_reducible exact Le.refl _ | with_reducible exact convoy_sane_le _ | with_reducible exact convoy_Age_l1_le _ _ | with_reducible refine Le.bind ?_ fun _ => ?_ | with_reducible refine Le.cond ?_ ?_ | with_reducible refine Le.ite ?_ ?_ | with_reducible refine Le.thenS ?_ (fun _ => ?_) (fun _ => ?_) | with_reducible refine Le.loop (fun _ => ?_) _ | with_reducible refine Le.loopL (fun _ _ => ?_) _ _ | exact Le.refl _
def convoy_find_1_bc (p1 : Mate) (p2 : Int) : Option Bool :=
  some (p1.ID == p2)
theorem convoy_find_1_b_le (p1 : Mate) (p2 : Int) : Le (convoy_find_1_bc p1 p2) (convoy_find_1_b p1 p2) := by
  unfold convoy_find_1_bc convoy_find_1_b
  repeat' first | with_reducible exact Le.refl _ | with_reducible refine Le.bind ?_ fun _ => ?_ | with_reducible refine Le.cond ?_ ?_ | with_reducible refine Le.ite ?_ ?_ | with_reducible refine Le.thenS ?_ (fun _ => ?_) (fun _ => ?_) | with_reducible refine Le.loop (fun _ => ?_) _ | with_reducible refine Le.loopL (fun _ _ => ?_) _ _ | exact Le.refl _
def slices_IndexFunc_Mate_Mate_convoy_find_1b_l1c (p1 : (List Mate)) (p2 : Int) (x1 : Int) : Option (Stp Int (Sum Unit Int)) :=
  cond (decide (x1 < (p1.length : Int))) ((geti p1 x1).bind fun v1 => (convoy_find_1_bc v1 p2).bind fun v2 => cond v2 (some (.out (.inr x1))) (some (.go (w64 (x1 + 1))))) (some (.out (.inl ())))
theorem slices_IndexFunc_Mate_Mate_convoy_find_1b_l1_le (p1 : (List Mate)) (p2 : Int) (x1 : Int) : Le (slices_IndexFunc_Mate_Mate_convoy_find_1b_l1c p1 p2 x1) (slices_IndexFunc_Mate_Mate_convoy_find_1b_l1 p1 p2 x1) := by
  unfold slices_IndexFunc_Mate_Mate_convoy_find_1b_l1c slices_IndexFunc_Mate_Mate_convoy_find_1b_l1
  repeat' first | with_reducible exact Le.refl _ | with_reducible exact convoy_find_1_b_le _ _ | with_reducible refine Le.bind ?_ fun _ => ?_ | with_reducible refine Le.cond ?_ ?_ | with_reducible refine Le.ite ?_ ?_ | with_reducible refine Le.thenS ?_ (fun _ => ?_) (fun _ => ?_) | with_reducible refine Le.loop (fun _ => ?_) _ | with_reducible refine Le.loopL (fun _ _ => ?_) _ _ | exact Le.refl _
def slices_IndexFunc_Mate_Mate_convoy_find_1bc (p1 : (List Mate)) (p2 : Int) : Option Int :=
  thenS (loopF (slices_IndexFunc_Mate_Mate_convoy_find_1b_l1c p1 p2) 0) (fun _ => some (-1)) (fun r => some r)
theorem slices_IndexFunc_Mate_Mate_convoy_find_1b_le (p1 : (List Mate)) (p2 : Int) : Le (slices_IndexFunc_Mate_Mate_convoy_find_1bc p1 p2) (slices_IndexFunc_Mate_Mate_convoy_find_1b p1 p2) := by
  unfold slices_IndexFunc_Mate_Mate_convoy_find_1bc slices_IndexFunc_Mate_Mate_convoy_find_1b
  repeat' first | with_reducible exact Le.refl _ | with_reducible exact slices_IndexFunc_Mate_Mate_convoy_find_1b_l1_le _ _ _ | with_reducible refine Le.bind ?_ fun _ => ?_ | with_reducible refine Le.cond ?_ ?_ | with_reducible refine Le.ite ?_ ?_ | with_reducible refine Le.thenS ?_ (fun _ => ?_) (fun _ => ?_) | with_reducible refine Le.loop (fun _ => ?_) _ | with_reducible refine Le.loopL (fun _ _ => ?_) _ _ | exact Le.refl _
def convoy_findc (p1 : (List Mate)) (p2 : Int) : Option Int :=
  (slices_IndexFunc_Mate_Mate_convoy_find_1bc p1 p2).bind fun v1 => some v1
theorem convoy_find_le (p1 : (List Mate)) (p2 : Int) : Le (convoy_findc p1 p2) (convoy_find p1 p2) := by
  unfold convoy_findc convoy_find
  repeat' first | with_reducible exact Le.refl _ | with_reducible exact slices_IndexFunc_Mate_Mate_convoy_find_1b_le _ _ | with_reducible refine Le.bind ?_ fun _ => ?_ | with_reducible refine Le.cond ?_ ?_ | with_reducible refine Le.ite ?_ ?_ | with_reducible refine Le.thenS ?_ (fun _ => ?_) (fun _ => ?_) | with_reducible refine Le.loop (fun _ => ?_) _ | with_reducible refine Le.loopL (fun _ _ => ?_) _ _ | exact Le.refl _
def convoy_Belowc (p1 : Guess) (p2 : Int) (p3 : Int) : Option Bool :=
  (convoy_sanec [p1.R, p1.V, p2, p3]).bind fun v1 => ((cond (v1 && (decide (p1.R ≤ p2))) (convoy_endc p1) (some default))).bind fun v2 => ((cond (v1 && (decide (p1.R ≤ p2))) (convoy_stopc p3) (some default))).bind fun v3 => some ((v1 && (decide (p1.R ≤ p2))) && (decide (v2 ≤ (w64 (p2 + v3)))))
theorem convoy_Below_le (p1 : Guess) (p2 : Int) (p3 : Int) : Le (convoy_Belowc p1 p2 p3) (convoy_Below p1 p2 p3) := by
  unfold convoy_Belowc convoy_Below
  repeat' first | with_reducible exact Le.refl _ | with_reducible exact convoy_sane_le _ | with_reducible exact convoy_end_le _ | with_reducible exact convoy_stop_le _ | with_reducible refine Le.bind ?_ fun _ => ?_ | with_reducible refine Le.cond ?_ ?_ | with_reducible refine Le.ite ?_ ?_ | with_reducible refine Le.thenS ?_ (fun _ => ?_) (fun _ => ?_) | with_reducible refine Le.loop (fun _ => ?_) _ | with_reducible refine Le.loopL (fun _ _ => ?_) _ _ | exact Le.refl _
def convoy_holdsc (p1 : (List Mate)) (p2 : Int) (p3 : Guess) : Option Bool :=
  (convoy_findc p1 p2).bind fun v1 => ((cond (decide (v1 ≥ 0)) (geti p1 v1) (some default))).bind fun v2 => ((cond (decide (v1 ≥ 0)) (convoy_rearc v2) (some default))).bind fun v3 => ((cond (decide (v1 ≥ 0)) (geti p1 v1) (some default))).bind fun v4 => ((cond (decide (v1 ≥ 0)) (convoy_Belowc p3 v3 v4.V) (some default))).bind fun v5 => some ((decide (v1 ≥ 0)) && v5)
theorem convoy_holds_le (p1 : (List Mate)) (p2 : Int) (p3 : Guess) : Le (convoy_holdsc p1 p2 p3) (convoy_holds p1 p2 p3) := by
  unfold convoy_holdsc convoy_holds
  repeat' first | with_reducible exact Le.refl _ | with_reducible exact convoy_find_le _ _ | with_reducible exact convoy_rear_le _ | with_reducible exact convoy_Below_le _ _ _ | with_reducible refine Le.bind ?_ fun _ => ?_ | with_reducible refine Le.cond ?_ ?_ | with_reducible refine Le.ite ?_ ?_ | with_reducible refine Le.thenS ?_ (fun _ => ?_) (fun _ => ?_) | with_reducible refine Le.loop (fun _ => ?_) _ | with_reducible refine Le.loopL (fun _ _ => ?_) _ _ | exact Le.refl _
def convoy_Sound_l1c (p1 : Convoy) (x1 : Int) : Option (Stp Int (Sum Unit Bool)) :=
  cond (decide (x1 < (p1.Mates.length : Int))) ((geti p1.Mates x1).bind fun v2 => ((cond (v2.Ahead != 0) (subl p1.Mates 0 x1) (some default))).bind fun v3 => ((cond (v2.Ahead != 0) (convoy_holdsc v3 v2.Ahead v2.Guess_) (some default))).bind fun v4 => cond ((v2.Ahead != 0) && (!v4)) (some (.out (.inr false))) (((cond (v2.Until != 0) (subl p1.Mates 0 x1) (some default))).bind fun v5 => ((cond (v2.Until != 0) (convoy_findc v5 v2.Ward) (some default))).bind fun v6 => ((cond ((v2.Until != 0) && (decide (v6 ≥ 0))) (subl p1.Mates 0 x1) (some default))).bind fun v7 => ((cond ((v2.Until != 0) && (decide (v6 ≥ 0))) (convoy_holdsc v7 v2.Ward v2.WardGuess) (some default))).bind fun v8 => cond (((v2.Until != 0) && (decide (v6 ≥ 0))) && (!v8)) (some (.out (.inr false))) (((cond ((v2.Until != 0) && (v2.Ward == p1.Guest_.ID)) (convoy_Belowc v2.WardGuess (w64 (p1.Guest_.S - p1.Guest_.Len)) p1.Guest_.V) (some default))).bind fun v9 => cond (((v2.Until != 0) && (v2.Ward == p1.Guest_.ID)) && (!v9)) (some (.out (.inr false))) (((cond (decide (x1 > 0)) (geti p1.Mates (w64 (x1 - 1))) (some default))).bind fun v10 => ((cond (((decide (x1 > 0)) && (v10.ID != v2.Ahead)) && (!(v2.Until == 0))) (geti p1.Mates (w64 (x1 - 1))) (some default))).bind fun v11 => cond (((decide (x1 > 0)) && (v10.ID != v2.Ahead)) && ((v2.Until == 0) || (v11.ID != v2.Ward))) (some (.out (.inr false))) (some (.go (w64 (x1 + 1)))))))) (some (.out (.inl ())))
theorem convoy_Sound_l1_le (p1 : Convoy) (x1 : Int) : Le (convoy_Sound_l1c p1 x1) (convoy_Sound_l1 p1 x1) := by
  unfold convoy_Sound_l1c convoy_Sound_l1
  repeat' first | with_reducible exact Le.refl _ | with_reducible exact convoy_holds_le _ _ _ | with_reducible exact convoy_find_le _ _ | with_reducible exact convoy_Below_le _ _ _ | with_reducible refine Le.bind ?_ fun _ => ?_ | with_reducible refine Le.cond ?_ ?_ | with_reducible refine Le.ite ?_ ?_ | with_reducible refine Le.thenS ?_ (fun _ => ?_) (fun _ => ?_) | with_reducible refine Le.loop (fun _ => ?_) _ | with_reducible refine Le.loopL (fun _ _ => ?_) _ _ | exact Le.refl _
def convoy_Soundc (p1 : Convoy) : Option Bool :=
  (convoy_Checkc p1).bind fun v1 => cond (v1 != 0) (some false) (thenS (loopF (convoy_Sound_l1c p1) 0) (fun _ => ((cond (!(p1.Guest_.Ahead == 0)) (convoy_holdsc p1.Mates p1.Guest_.Ahead p1.Guest_.Guess_) (some default))).bind fun v12 => some ((p1.Guest_.Ahead == 0) || v12)) (fun r => some r))
theorem convoy_Sound_le (p1 : Convoy) : Le (convoy_Soundc p1) (convoy_Sound p1) := by
  unfold convoy_Soundc convoy_Sound
  repeat' first | with_reducible exact Le.refl _ | with_reducible exact convoy_Check_le _ | with_reducible exact convoy_Sound_l1_le _ _ | with_reducible exact convoy_holds_le _ _ _ | with_reducible refine Le.bind ?_ fun _ => ?_ | with_reducible refine Le.cond ?_ ?_ | with_reducible refine Le.ite ?_ ?_ | with_reducible refine Le.thenS ?_ (fun _ => ?_) (fun _ => ?_) | with_reducible refine Le.loop (fun _ => ?_) _ | with_reducible refine Le.loopL (fun _ _ => ?_) _ _ | exact Le.refl _
def convoy_Gaps_l1c (p1 : Convoy) (x1 : ((List Int) × Int)) : Option (Stp ((List Int) × Int) (List Int)) :=
  cond (decide (x1.2 < (p1.Mates.length : Int))) ((geti p1.Mates (w64 (x1.2 - 1))).bind fun v2 => (convoy_rearc v2).bind fun v3 => (geti p1.Mates x1.2).bind fun v4 => (appc x1.1 [(w64 (v3 - v4.S))]).bind fun v5 => some (.go (v5, (w64 (x1.2 + 1))))) (some (.out x1.1))
theorem convoy_Gaps_l1_le (p1 : Convoy) (x1 : ((List Int) × Int)) : Le (convoy_Gaps_l1c p1 x1) (convoy_Gaps_l1 p1 x1) := by
  unfold convoy_Gaps_l1c convoy_Gaps_l1
  repeat' first | with_reducible exact Le.refl _ | with_reducible exact convoy_rear_le _ | with_reducible refine Le.bind ?_ fun _ => ?_ | with_reducible refine Le.cond ?_ ?_ | with_reducible refine Le.ite ?_ ?_ | with_reducible refine Le.thenS ?_ (fun _ => ?_) (fun _ => ?_) | with_reducible refine Le.loop (fun _ => ?_) _ | with_reducible refine Le.loopL (fun _ _ => ?_) _ _ | exact Le.refl _
def convoy_Gapsc (p1 : Convoy) : Option (List Int) :=
  (convoy_Checkc p1).bind fun v1 => cond (v1 != 0) (some []) ((loopF (convoy_Gaps_l1c p1) ([], 1)).bind fun y1 => some y1)
theorem convoy_Gaps_le (p1 : Convoy) : Le (convoy_Gapsc p1) (convoy_Gaps p1) := by
  unfold convoy_Gapsc convoy_Gaps
  repeat' first | with_reducible exact Le.refl _ | with_reducible exact convoy_Check_le _ | with_reducible exact convoy_Gaps_l1_le _ _ | with_reducible refine Le.bind ?_ fun _ => ?_ | with_reducible refine Le.cond ?_ ?_ | with_reducible refine Le.ite ?_ ?_ | with_reducible refine Le.thenS ?_ (fun _ => ?_) (fun _ => ?_) | with_reducible refine Le.loop (fun _ => ?_) _ | with_reducible refine Le.loopL (fun _ _ => ?_) _ _ | exact Le.refl _
def kit_SameLongs_l1c (p1 : (List Int)) (p2 : (List Int)) (x1 : Int) : Option (Stp Int (Sum Unit Bool)) :=
  cond ((decide (x1 < (p1.length : Int))) && (decide (x1 < (p2.length : Int)))) ((geti p1 x1).bind fun v1 => (geti p2 x1).bind fun v2 => cond (v1 != v2) (some (.out (.inr false))) (some (.go (w64 (x1 + 1))))) (some (.out (.inl ())))
theorem kit_SameLongs_l1_le (p1 : (List Int)) (p2 : (List Int)) (x1 : Int) : Le (kit_SameLongs_l1c p1 p2 x1) (kit_SameLongs_l1 p1 p2 x1) := by
  unfold kit_SameLongs_l1c kit_SameLongs_l1
  repeat' first | with_reducible exact Le.refl _ | with_reducible refine Le.bind ?_ fun _ => ?_ | with_reducible refine Le.cond ?_ ?_ | with_reducible refine Le.ite ?_ ?_ | with_reducible refine Le.thenS ?_ (fun _ => ?_) (fun _ => ?_) | with_reducible refine Le.loop (fun _ => ?_) _ | with_reducible refine Le.loopL (fun _ _ => ?_) _ _ | exact Le.refl _
def kit_SameLongsc (p1 : (List Int)) (p2 : (List Int)) : Option Bool :=
  thenS (loopF (kit_SameLongs_l1c p1 p2) 0) (fun _ => some ((p1.length : Int) == (p2.length : Int))) (fun r => some r)
theorem kit_SameLongs_le (p1 : (List Int)) (p2 : (List Int)) : Le (kit_SameLongsc p1 p2) (kit_SameLongs p1 p2) := by
  unfold kit_SameLongsc kit_SameLongs
  repeat' first | with_reducible exact Le.refl _ | with_reducible exact kit_SameLongs_l1_le _ _ _ | with_reducible refine Le.bind ?_ fun _ => ?_ | with_reducible refine Le.cond ?_ ?_ | with_reducible refine Le.ite ?_ ?_ | with_reducible refine Le.thenS ?_ (fun _ => ?_) (fun _ => ?_) | with_reducible refine Le.loop (fun _ => ?_) _ | with_reducible refine Le.loopL (fun _ _ => ?_) _ _ | exact Le.refl _
def law09_awakec : Option Bool :=
  (law09_shownc).bind fun v1 => ((cond ((v1.Mates.length : Int) == 2) (convoy_Agec (Guess.mk 0 200) 2) (some default))).bind fun v2 => ((cond (((v1.Mates.length : Int) == 2) && (v2.R == 130 && (v2.V == 20 && true))) (convoy_Soundc v1) (some default))).bind fun v3 => ((cond ((((v1.Mates.length : Int) == 2) && (v2.R == 130 && (v2.V == 20 && true))) && v3) (convoy_Gapsc v1) (some default))).bind fun v4 => ((cond ((((v1.Mates.length : Int) == 2) && (v2.R == 130 && (v2.V == 20 && true))) && v3) (kit_SameLongsc v4 [6000]) (some default))).bind fun v5 => ((cond (((((v1.Mates.length : Int) == 2) && (v2.R == 130 && (v2.V == 20 && true))) && v3) && v5) (convoy_Safec 0 191 1000 (Guess.mk 1000 100)) (some default))).bind fun v6 => some ((((((v1.Mates.length : Int) == 2) && (v2.R == 130 && (v2.V == 20 && true))) && v3) && v5) && (!v6))
theorem law09_awake_le : Le (law09_awakec) (law09_awake) := by
  unfold law09_awakec law09_awake
  repeat' first | with_reducible exact Le.refl _ | with_reducible exact law09_shown_le | with_reducible exact convoy_Age_le _ _ | with_reducible exact convoy_Sound_le _ | with_reducible exact convoy_Gaps_le _ | with_reducible exact kit_SameLongs_le _ _ | with_reducible exact convoy_Safe_le _ _ _ _ | with_reducible refine Le.bind ?_ fun _ => ?_ | with_reducible refine Le.cond ?_ ?_ | with_reducible refine Le.ite ?_ ?_ | with_reducible refine Le.thenS ?_ (fun _ => ?_) (fun _ => ?_) | with_reducible refine Le.loop (fun _ => ?_) _ | with_reducible refine Le.loopL (fun _ _ => ?_) _ _ | exact Le.refl _
end Go.Abs.Convoy

namespace Go.Abs.Convoy
open Go Go.Abs
theorem awake_eq : law09_awake = some true := law09_awake_le _ (by decide +kernel)
end Go.Abs.Convoy

namespace Go.Abs.Convoy
open Go Go.Abs

theorem cond_some {α : Type} (c : Bool) (a b : α) : cond c (some a) (some b) = some (cond c a b) := by cases c <;> rfl
/-- The place of the first element with a property. -/
theorem index_loop {α : Type} {f : Int → Option (Stp Int (Sum Unit Int))} (l : List α) (P : α → Bool) (hl : l.length ≤ 1000000000) (hf : ∀ (i : Nat) a, l[i]? = some a → f (i : Int) = some (if P a then .out (.inr (i : Int)) else .go (w64 ((i : Int) + 1)))) (he : f (l.length : Int) = some (.out (.inl ()))) :
    loop f 0 = some (match l.findIdx? P with | some i => .inr (i : Int) | none => .inl ()) := by
  have key : ∀ (r : List α) (i : Nat), l.drop i = r → i ≤ l.length → loop f (i : Int) = some (match r.findIdx? P with | some j => .inr ((i + j : Nat) : Int) | none => .inl ()) := by
    intro r
    induction r with
    | nil =>
      intro i hi hil
      have := drop_nil hi
      obtain rfl : i = l.length := by omega
      rw [loop_out he]; rfl
    | cons a r ih =>
      intro i hi _
      have hlt := drop_lt hi
      have h0 : l[i]? = some a := by have := congrArg (fun z => z[0]?) hi; simpa using this
      have hs := hf i a h0
      rw [List.findIdx?_cons]
      by_cases hp : P a = true
      · rw [if_pos hp] at hs
        rw [loop_out hs, if_pos hp]; simp
      · rw [if_neg hp] at hs
        rw [w64_id (by omega)] at hs
        rw [loop_go hs, show ((i : Int) + 1) = ((i + 1 : Nat) : Int) by omega, ih (i + 1) (drop_succ hi) (by omega), if_neg hp]
        cases r.findIdx? P with
        | none => rfl
        | some j => simp only [Option.map_some]; congr 3; omega
  have := key l 0 rfl (by omega)
  rw [show ((0 : Nat) : Int) = 0 from rfl] at this
  rw [this]
  cases l.findIdx? P <;> simp
/-- -1, or the place. -/
def idxI {α : Type} (P : α → Bool) (l : List α) : Int := match l.findIdx? P with | some i => (i : Int) | none => -1
theorem idxI_any {α : Type} (P : α → Bool) (l : List α) : decide (idxI P l ≥ 0) = l.any P := by
  unfold idxI
  cases h : l.findIdx? P with
  | none =>
    have := List.findIdx?_eq_none_iff.1 h
    rw [show l.any P = false by rw [List.any_eq_false]; intro x hx; simpa using this x hx]
    decide
  | some i =>
    have := List.findIdx?_isSome (xs := l) (p := P)
    rw [h] at this
    rw [← this]
    simp
/-- What both twins compute of a list. -/
theorem index_eq {α : Type} {f : Int → Option (Stp Int (Sum Unit Int))} (l : List α) (P : α → Bool) (hl : l.length ≤ 1000000000) (hf : ∀ (i : Nat) a, l[i]? = some a → f (i : Int) = some (if P a then .out (.inr (i : Int)) else .go (w64 ((i : Int) + 1)))) (he : f (l.length : Int) = some (.out (.inl ()))) :
    thenS (loop f 0) (fun _ => some (-1)) (fun r => some r) = some (idxI P l) := by
  rw [index_loop l P hl hf he]
  unfold idxI
  cases l.findIdx? P <;> rfl
theorem geti_some {α : Type} {l : List α} {i : Nat} {a : α} (h : l[i]? = some a) : geti l (i : Int) = some a := by
  unfold geti
  rw [if_pos (by omega), Int.toNat_natCast, h]
theorem get_lt {α : Type} {l : List α} {i : Nat} {a : α} (h : l[i]? = some a) : i < l.length := (List.getElem?_eq_some_iff.1 h).1

/-! ### Numbers that can be computed with -/
def sane1 (n : Int) : Bool := decide (-4398046511104 ≤ n) && decide (n ≤ 4398046511104)
def saneM (l : List Int) : Bool := l.all sane1
theorem convoy_sane_eq (l : List Int) (hl : l.length ≤ 1000000000) : convoy_sane l = some (saneM l) := by
  unfold convoy_sane slices_ContainsFunc_int64_int64_convoy_sane_1 slices_IndexFunc_int64_int64_convoy_sane_1
  rw [index_eq l (fun n => !sane1 n) hl (fun i a h => by
    have := get_lt h
    unfold slices_IndexFunc_int64_int64_convoy_sane_1_l1 convoy_sane_1 convoy_within
    rw [show decide ((i : Int) < (l.length : Int)) = true from decide_eq_true (by omega), geti_some h]
    simp only [cond_true, Option.bind_some]
    unfold sane1
    cases (decide (-4398046511104 ≤ a) && decide (a ≤ 4398046511104)) <;> rfl) (by
    unfold slices_IndexFunc_int64_int64_convoy_sane_1_l1
    simp)]
  simp only [Option.bind_some, idxI_any, Option.some.injEq, saneM]
  rw [Bool.eq_iff_iff]
  simp [List.all_eq_true, List.any_eq_false]
theorem ref09_sane_eq (l : List Int) (hl : l.length ≤ 1000000000) : ref09_sane l = some (saneM l) := by
  have key : ∀ (r : List Int) (i : Nat), l.drop i = r → loop (ref09_sane_l1 l) (i : Int) = some (if r.all sane1 then .inl () else .inr false) := by
    intro r
    induction r with
    | nil =>
      intro i hi
      have := drop_nil hi
      refine loop_out ?_
      unfold ref09_sane_l1
      rw [show decide ((i : Int) < (l.length : Int)) = false from decide_eq_false (by omega)]
      rfl
    | cons a r ih =>
      intro i hi
      have hlt := drop_lt hi
      have hs : ref09_sane_l1 l (i : Int) = some (if sane1 a then .go ((i : Int) + 1) else .out (.inr false)) := by
        unfold ref09_sane_l1
        rw [show decide ((i : Int) < (l.length : Int)) = true from decide_eq_true (by omega), geti_drop hi, w64_id (by omega)]
        simp only [cond_true, Option.bind_some, cond_some]
        unfold sane1
        by_cases h1 : a < -4398046511104
        · rw [show decide (a < -4398046511104) = true from decide_eq_true h1, show decide (-4398046511104 ≤ a) = false from decide_eq_false (by omega)]; rfl
        · rw [show decide (a < -4398046511104) = false from decide_eq_false h1, show decide (-4398046511104 ≤ a) = true from decide_eq_true (by omega)]
          simp only [Bool.not_false, cond_true, Bool.false_or, Bool.true_and]
          by_cases h2 : a > 4398046511104
          · rw [show decide (a > 4398046511104) = true from decide_eq_true h2, show decide (a ≤ 4398046511104) = false from decide_eq_false (by omega)]; rfl
          · rw [show decide (a > 4398046511104) = false from decide_eq_false h2, show decide (a ≤ 4398046511104) = true from decide_eq_true (by omega)]; rfl
      by_cases hp : sane1 a = true
      · rw [if_pos hp] at hs
        rw [loop_go hs, show ((i : Int) + 1) = ((i + 1 : Nat) : Int) by omega, ih (i + 1) (drop_succ hi), List.all_cons, hp, Bool.true_and]
      · rw [if_neg hp] at hs
        rw [loop_out hs, List.all_cons, show sane1 a = false by simpa using hp]; rfl
  unfold ref09_sane
  have := key l 0 rfl
  rw [show ((0 : Nat) : Int) = 0 from rfl] at this
  rw [this]
  unfold saneM
  cases l.all sane1 <;> rfl
theorem sane1_iff {n : Int} : sane1 n = true ↔ -4398046511104 ≤ n ∧ n ≤ 4398046511104 := by simp [sane1]

/-! ### The way to stop -/
def stopM (v : Int) : Int := if v < 1 then 0 else (min v 1000000 - 1) / 90 * min v 1000000 - 90 * ((min v 1000000 - 1) / 90 * ((min v 1000000 - 1) / 90 + 1) / 2)
theorem tri_even (n : Int) : ∃ k, n * (n + 1) = 2 * k := by
  have : n % 2 = 0 ∨ n % 2 = 1 := by omega
  rcases this with h | h
  · obtain ⟨m, rfl⟩ : ∃ m, n = 2 * m := ⟨n / 2, by omega⟩
    exact ⟨m * (2 * m + 1), Int.mul_assoc _ _ _⟩
  · obtain ⟨m, rfl⟩ : ∃ m, n = 2 * m + 1 := ⟨n / 2, by omega⟩
    exact ⟨(2 * m + 1) * (m + 1), by rw [show 2 * m + 1 + 1 = 2 * (m + 1) by omega, Int.mul_left_comm]⟩
theorem nn_bd {n : Int} (h0 : 0 ≤ n) (h1 : n ≤ 11112) : 0 ≤ n * (n + 1) ∧ n * (n + 1) ≤ 200000000 := by
  refine ⟨Int.mul_nonneg h0 (by omega), ?_⟩
  have := Int.mul_le_mul h1 (show n + 1 ≤ 11113 by omega) (by omega) (by decide)
  omega
theorem convoy_stop_eq (v : Int) : convoy_stop v = some (stopM v) := by
  unfold convoy_stop world_Stop stopM
  by_cases h : v < 1
  · simp [h]
  · rw [show decide (v < 1) = false from decide_eq_false h, if_neg h]
    simp only [Bool.false_or, show decide ((90 : Int) < 1) = false from rfl, cond_false, mm2_min]
    generalize hw : min v 1000000 = w
    have w1 : 1 ≤ w ∧ w ≤ 1000000 := by omega
    rw [w64_id (n := w - 1) (by omega), show min (90 : Int) 1000000 = 90 from rfl]
    unfold quoc
    rw [if_neg (by decide), Int.tdiv_eq_ediv_of_nonneg (by omega)]
    generalize hn : (w - 1) / 90 = n
    have n1 : 0 ≤ n ∧ n ≤ 11112 := by omega
    have t := nn_bd n1.1 n1.2
    have m1 : 0 ≤ n * w ∧ n * w ≤ 11112000000 := by
      refine ⟨Int.mul_nonneg n1.1 (by omega), ?_⟩
      have := Int.mul_le_mul n1.2 w1.2 (by omega) (by decide)
      omega
    simp only [Option.bind_some]
    rw [show IntKind.i64.wrap n = n from w64_id (by omega), w64_id (n := n * w) (by omega), w64_id (n := n + 1) (by omega), w64_id (n := n * (n + 1)) (by omega), Int.tdiv_eq_ediv_of_nonneg t.1, w64_id (n := n * (n + 1) / 2) (by omega), w64_id (n := 90 * (n * (n + 1) / 2)) (by omega), w64_id (by omega)]
theorem stopM_small {v : Int} (h : v ≤ 90) : stopM v = 0 := by
  unfold stopM
  split
  · rfl
  · rw [show (min v 1000000 - 1) / 90 = 0 by omega]; simp
theorem stopM_step {v : Int} (h : 90 < v) (h1 : v ≤ 1000000) : stopM v = v - 90 + stopM (v - 90) := by
  unfold stopM
  rw [if_neg (by omega)]
  by_cases h2 : v - 90 < 1
  · omega
  · rw [if_neg h2, show min v 1000000 = v by omega, show min (v - 90) 1000000 = v - 90 by omega, show (v - 90 - 1) / 90 = (v - 1) / 90 - 1 by omega]
    generalize (v - 1) / 90 = n
    obtain ⟨k, hk⟩ := tri_even n
    have e2 : (n - 1) * (n - 1 + 1) = 2 * (k - n) := by
      have : (n - 1) * (n - 1 + 1) = n * (n + 1) - 2 * n := by grind
      rw [this, hk]; omega
    rw [hk, e2, Int.mul_ediv_cancel_left k (by decide), Int.mul_ediv_cancel_left (k - n) (by decide)]
    have : (n - 1) * (v - 90) = n * v - 90 * n - v + 90 := by grind
    rw [this]
    omega
theorem stopM_nonneg (v : Int) : 0 ≤ stopM v ∧ stopM v ≤ 11112000000 := by
  unfold stopM
  split
  · omega
  · generalize hw : min v 1000000 = w
    have w1 : 1 ≤ w ∧ w ≤ 1000000 := by omega
    generalize hn : (w - 1) / 90 = n
    have n1 : 0 ≤ n ∧ n ≤ 11112 := by omega
    have t := nn_bd n1.1 n1.2
    have m1 : n * w ≤ 11112000000 := by
      have := Int.mul_le_mul n1.2 w1.2 (by omega) (by decide)
      omega
    have m2 : n * (90 * n + 1) ≤ n * w := Int.mul_le_mul_of_nonneg_left (by omega) n1.1
    have m3 : n * (90 * n + 1) = 90 * (n * n) + n := by grind
    have m5 : n * (n + 1) = n * n + n := by grind
    have m4 : n ≤ n * n := by
      rcases (show n = 0 ∨ 1 ≤ n by omega) with h | h
      · rw [h]; decide
      · have := Int.mul_le_mul_of_nonneg_left h n1.1
        omega
    omega
end Go.Abs.Convoy

namespace Go.Abs.Convoy
open Go Go.Abs

theorem ref04_loop : ∀ (m : Nat) (v n : Int), v ≤ 90 + 90 * m → v ≤ 1000000 → -9000000000000 ≤ v → 0 ≤ n → n + 1000000 * m ≤ 100000000000 → loop (ref04_Stop_l1 90) (v, n) = some (n + stopM v) := by
  intro m
  induction m with
  | zero =>
    intro v n h _ _ _ _
    refine loop_out ?_
    unfold ref04_Stop_l1
    rw [mm2_min, show min (90 : Int) 1000000 = 90 from rfl, show decide (v > 90) = false from decide_eq_false (by omega), stopM_small (by omega), Int.add_zero]
    rfl
  | succ m ih =>
    intro v n h h1 h2 h3 h4
    by_cases hv : v > 90
    · have hs : ref04_Stop_l1 90 (v, n) = some (.go (v - 90, n + (v - 90))) := by
        unfold ref04_Stop_l1
        rw [mm2_min, show min (90 : Int) 1000000 = 90 from rfl, show decide (v > 90) = true from decide_eq_true hv]
        dsimp only
        rw [w64_id (n := v - 90) (by omega), w64_id (n := n + (v - 90)) (by omega)]
        rfl
      rw [loop_go hs, ih _ _ (by omega) (by omega) (by omega) (by omega) (by omega), stopM_step hv h1]
      congr 1; omega
    · refine loop_out ?_
      unfold ref04_Stop_l1
      rw [mm2_min, show min (90 : Int) 1000000 = 90 from rfl, show decide (v > 90) = false from decide_eq_false hv, stopM_small (by omega), Int.add_zero]
      rfl
theorem stopM_min (v : Int) : stopM (min v 1000000) = stopM v := by
  unfold stopM
  rw [show min (min v 1000000) 1000000 = min v 1000000 by omega]
  by_cases h : v < 1
  · rw [if_pos (by omega), if_pos h]
  · rw [if_neg (by omega), if_neg h]
theorem ref09_stop_eq (v : Int) : ref09_stop v = some (stopM v) := by
  unfold ref09_stop ref04_Stop
  rw [mm2_min, mm2_min, show min (90 : Int) 1000000 = 90 from rfl]
  by_cases h : v < 1
  · rw [show decide (min v 1000000 < 1) = true from decide_eq_true (by omega), stopM_small (by omega)]
    rfl
  · rw [show decide (min v 1000000 < 1) = false from decide_eq_false (by omega), show decide ((90 : Int) < 1) = false from rfl]
    simp only [Bool.or_self, cond_false]
    rw [ref04_loop 11111 (min v 1000000) 0 (by omega) (by omega) (by omega) (by omega) (by omega), stopM_min]
    simp
theorem saneM2 {a b : Int} (h : saneM [a, b] = true) : (-4398046511104 ≤ a ∧ a ≤ 4398046511104) ∧ -4398046511104 ≤ b ∧ b ≤ 4398046511104 := by
  simpa [saneM, sane1_iff] using h
theorem saneM4 {a b c d : Int} (h : saneM [a, b, c, d] = true) : (-4398046511104 ≤ a ∧ a ≤ 4398046511104) ∧ (-4398046511104 ≤ b ∧ b ≤ 4398046511104) ∧ (-4398046511104 ≤ c ∧ c ≤ 4398046511104) ∧ -4398046511104 ≤ d ∧ d ≤ 4398046511104 := by
  simpa [saneM, sane1_iff] using h
theorem saneM5 {a b c d e : Int} (h : saneM [a, b, c, d, e] = true) : (-4398046511104 ≤ a ∧ a ≤ 4398046511104) ∧ (-4398046511104 ≤ b ∧ b ≤ 4398046511104) ∧ (-4398046511104 ≤ c ∧ c ≤ 4398046511104) ∧ (-4398046511104 ≤ d ∧ d ≤ 4398046511104) ∧ -4398046511104 ≤ e ∧ e ≤ 4398046511104 := by
  simpa [saneM, sane1_iff] using h
/-- Where the one of a guess comes to a standstill at least. -/
def endM (g : Guess) : Int := g.R + stopM g.V
theorem convoy_end_eq {g : Guess} (h : -4398046511104 ≤ g.R ∧ g.R ≤ 4398046511104) : convoy_end g = some (endM g) := by
  unfold convoy_end
  have := stopM_nonneg g.V
  rw [convoy_stop_eq, Option.bind_some, w64_id (by omega)]; rfl
def belowM (g : Guess) (r v : Int) : Bool := saneM [g.R, g.V, r, v] && decide (g.R ≤ r) && decide (endM g ≤ r + stopM v)
theorem convoy_Below_eq (g : Guess) (r v : Int) : convoy_Below g r v = some (belowM g r v) := by
  unfold convoy_Below belowM
  rw [convoy_sane_eq _ (by simp), Option.bind_some]
  cases hs : saneM [g.R, g.V, r, v]
  · simp
  · have b := saneM4 hs
    have := stopM_nonneg v
    rw [convoy_end_eq b.1, convoy_stop_eq]
    by_cases hr : g.R ≤ r
    · rw [show decide (g.R ≤ r) = true from decide_eq_true hr]
      simp only [Bool.and_self, cond_true, Option.bind_some]
      rw [w64_id (by omega)]
    · rw [show decide (g.R ≤ r) = false from decide_eq_false hr]
      simp
def betterM (g h : Guess) : Guess := if saneM [g.R, g.V, h.R, h.V] then (if g.R ≤ h.R ∧ endM g ≤ endM h then h else g) else ⟨0, 0⟩
theorem convoy_Better_eq (g h : Guess) : convoy_Better g h = some (betterM g h) := by
  unfold convoy_Better betterM
  rw [convoy_sane_eq _ (by simp), Option.bind_some]
  cases hs : saneM [g.R, g.V, h.R, h.V]
  · simp
  · have b := saneM4 hs
    rw [convoy_end_eq b.1, convoy_end_eq b.2.2.1]
    by_cases hr : g.R ≤ h.R
    · rw [show decide (h.R ≥ g.R) = true from decide_eq_true hr]
      simp only [Bool.not_true, cond_false, cond_true, Option.bind_some, Bool.true_and, if_true, hr, true_and, ge_iff_le, cond_if]
      split <;> rfl
    · rw [show decide (h.R ≥ g.R) = false from decide_eq_false hr]
      simp [hr]
def safeM (s v gap : Int) (g : Guess) : Bool := saneM [s, v, gap, g.R, g.V] && decide (s ≤ g.R - gap) && decide (s + stopM v ≤ endM g - gap)
theorem convoy_Safe_eq (s v gap : Int) (g : Guess) : convoy_Safe s v gap g = some (safeM s v gap g) := by
  unfold convoy_Safe safeM
  rw [convoy_sane_eq _ (by simp), Option.bind_some]
  cases hs : saneM [s, v, gap, g.R, g.V]
  · simp
  · have b := saneM5 hs
    have := stopM_nonneg v
    have := stopM_nonneg g.V
    rw [w64_id (n := g.R - gap) (by omega), convoy_end_eq b.2.2.2.1, convoy_stop_eq]
    by_cases hr : s ≤ g.R - gap
    · rw [show decide (s ≤ g.R - gap) = true from decide_eq_true hr]
      simp only [Bool.and_self, cond_true, Option.bind_some]
      rw [w64_id (by omega), w64_id (by unfold endM; omega)]
    · rw [show decide (s ≤ g.R - gap) = false from decide_eq_false hr]
      simp
theorem ref09_Safe_eq (s v gap : Int) (g : Guess) : ref09_Safe s v gap g = some (safeM s v gap g) := by
  unfold ref09_Safe safeM
  rw [ref09_sane_eq _ (by simp), Option.bind_some]
  cases hs : saneM [s, v, gap, g.R, g.V]
  · simp
  · have b := saneM5 hs
    have := stopM_nonneg v
    have := stopM_nonneg g.V
    rw [w64_id (n := g.R - gap) (by omega), ref09_stop_eq, ref09_stop_eq]
    by_cases hr : s ≤ g.R - gap
    · rw [show decide (s ≤ g.R - gap) = true from decide_eq_true hr]
      simp only [Bool.and_self, cond_true, Option.bind_some]
      rw [w64_id (n := s + _) (by omega), w64_id (n := g.R + _) (by omega), w64_id (by omega)]; rfl
    · rw [show decide (s ≤ g.R - gap) = false from decide_eq_false hr]
      simp
/-- Ticks in which the one of a guess brakes. -/
def ageN : Nat → Guess → Guess
  | 0, g => g
  | n + 1, g => ageN n ⟨g.R + max 0 (g.V - 90), max 0 (g.V - 90)⟩
def ageM (g : Guess) (n : Int) : Guess := if saneM [g.R, g.V] then ageN (max 0 (min n 30)).toNat g else ⟨0, 0⟩
theorem age_loop (n : Int) : ∀ (k : Nat) (i : Nat) (g : Guess), (i : Int) + k = max 0 (min n 30) → (-4398046511104 ≤ g.V ∧ g.V ≤ 4398046511104) → (-4398046511104 * (1 + i) ≤ g.R ∧ g.R ≤ 4398046511104 * (1 + i)) → loop (convoy_Age_l1 n) ((i : Int), g) = some (ageN k g) ∧ loop (ref09_Age_l1 n) ((i : Int), g) = some (ageN k g) := by
  intro k
  induction k with
  | zero =>
    intro i g h _ _
    constructor
    · refine loop_out ?_
      unfold convoy_Age_l1
      rw [mm2_max, mm2_min, show decide ((i : Int) < max 0 (min n 30)) = false from decide_eq_false (by omega)]; rfl
    · refine loop_out ?_
      unfold ref09_Age_l1
      by_cases h1 : (i : Int) < n
      · rw [show decide ((i : Int) < 30) = false from decide_eq_false (by omega), Bool.and_false]; rfl
      · rw [show decide ((i : Int) < n) = false from decide_eq_false h1, Bool.false_and]; rfl
  | succ k ih =>
    intro i g h hv hr
    have hb : w64 (g.V - 90) = g.V - 90 := w64_id (by omega)
    have hi : (i : Int) < 30 := by omega
    have hrr : w64 (g.R + max 0 (g.V - 90)) = g.R + max 0 (g.V - 90) := w64_id (by omega)
    have s1 : convoy_Age_l1 n ((i : Int), g) = some (.go (((i + 1 : Nat) : Int), ⟨g.R + max 0 (g.V - 90), max 0 (g.V - 90)⟩)) := by
      unfold convoy_Age_l1
      rw [mm2_max, mm2_min, show decide ((i : Int) < max 0 (min n 30)) = true from decide_eq_true (by omega)]
      dsimp only
      rw [hb, mm2_max, hrr, w64_id (by omega)]; rfl
    have s2 : ref09_Age_l1 n ((i : Int), g) = some (.go (((i + 1 : Nat) : Int), ⟨g.R + max 0 (g.V - 90), max 0 (g.V - 90)⟩)) := by
      unfold ref09_Age_l1
      rw [show decide ((i : Int) < n) = true from decide_eq_true (by omega), show decide ((i : Int) < 30) = true from decide_eq_true hi]
      dsimp only
      rw [hb, mm2_max, hrr, w64_id (by omega)]; rfl
    rw [loop_go s1, loop_go s2, ageN]
    exact ih (i + 1) _ (by omega) (by dsimp only; omega) (by dsimp only; omega)
theorem Age_eq (g : Guess) (n : Int) : convoy_Age g n = some (ageM g n) ∧ ref09_Age g n = some (ageM g n) := by
  unfold convoy_Age ref09_Age ageM
  rw [convoy_sane_eq _ (by simp), ref09_sane_eq _ (by simp), Option.bind_some, Option.bind_some]
  cases hs : saneM [g.R, g.V]
  · exact ⟨rfl, rfl⟩
  · have b := saneM2 hs
    obtain ⟨h1, h2⟩ := age_loop n (max 0 (min n 30)).toNat 0 g (by omega) b.2 (by omega)
    rw [show ((0 : Nat) : Int) = 0 from rfl] at h1 h2
    simp only [Bool.not_true, cond_false, h1, h2, Option.bind_some, if_true, and_self]
end Go.Abs.Convoy

namespace Go.Abs.Convoy
open Go Go.Abs

theorem kit_Mod_eq {n m : Int} (hm : 0 < m) (hm2 : m ≤ 9223372036854775807) : kit_Mod n m = some (n % m) ∧ kit_Mod64 n m = some (n % m) := by
  have h1 : kit_Mod64 n m = some (n % m) := by
    unfold kit_Mod64 remc
    rw [if_neg (by omega), Option.bind_some, Int.tmod_eq_emod]
    have := Int.emod_nonneg n (show m ≠ 0 by omega)
    have := Int.emod_lt_of_pos n hm
    split
    · rw [show decide (n % m - ((0 : Nat) : Int) < 0) = false from decide_eq_false (by omega)]
      simp
    · rename_i h
      have hne : n % m ≠ 0 := fun e => h (.inr (Int.dvd_of_emod_eq_zero e))
      rw [show ((m.natAbs : Nat) : Int) = m by omega, show decide (n % m - m < 0) = true from decide_eq_true (by omega), cond_true, w64_id (by omega)]
      congr 1; omega
  exact ⟨h1, h1⟩
theorem stopM_next {v : Int} (h0 : 0 ≤ v) (h1 : v ≤ 1000000) : stopM v = max 0 (v - 90) + stopM (max 0 (v - 90)) := by
  by_cases h : 90 < v
  · rw [show max 0 (v - 90) = v - 90 by omega, stopM_step h h1]
  · rw [show max 0 (v - 90) = 0 by omega, stopM_small (by omega), stopM_small (by omega)]; rfl
theorem stopM_mono : ∀ (k : Nat) {v w : Int}, w ≤ 90 + 90 * k → v ≤ w → w ≤ 1000000 → stopM v ≤ stopM w
  | 0, v, w, h, hv, _ => by rw [stopM_small (by omega), stopM_small (by omega)]; omega
  | k + 1, v, w, h, hv, hw => by
    by_cases h1 : 90 < v
    · rw [stopM_step h1 (by omega), stopM_step (show 90 < w by omega) hw]
      have := stopM_mono k (show w - 90 ≤ 90 + 90 * k by omega) (show v - 90 ≤ w - 90 by omega) (by omega)
      omega
    · rw [stopM_small (by omega)]; exact (stopM_nonneg w).1
theorem stop_mono {v w : Int} (hv : v ≤ w) (hw : w ≤ 1000000) : stopM v ≤ stopM w := stopM_mono 11111 (by omega) hv hw
/-- One guess is below another one. -/
def Lower (g h : Guess) : Prop := g.R ≤ h.R ∧ endM g ≤ endM h
def age1 (g : Guess) : Guess := ⟨g.R + max 0 (g.V - 90), max 0 (g.V - 90)⟩
theorem age1_end {g : Guess} (h : 0 ≤ g.V ∧ g.V ≤ 2000) : endM (age1 g) = endM g := by
  unfold endM age1
  rw [stopM_next h.1 (by omega)]
  dsimp only
  omega
theorem age1_lower {g h : Guess} (hg : 0 ≤ g.V ∧ g.V ≤ 2000) (hh : 0 ≤ h.V ∧ h.V ≤ 2000) (L : Lower g h) : Lower (age1 g) (age1 h) := by
  refine ⟨?_, by rw [age1_end hg, age1_end hh]; exact L.2⟩
  have l1 := L.1
  have l2 := L.2
  unfold endM at l2
  rw [stopM_next hg.1 (by omega), stopM_next hh.1 (by omega)] at l2
  unfold age1
  dsimp only
  by_cases hle : max 0 (g.V - 90) ≤ max 0 (h.V - 90)
  · omega
  · have := stop_mono (show max 0 (h.V - 90) ≤ max 0 (g.V - 90) by omega) (by omega)
    omega
theorem belowM_lower {g : Guess} {r v : Int} (h1 : saneM [g.R, g.V, r, v] = true) : belowM g r v = true ↔ Lower g ⟨r, v⟩ := by
  unfold belowM
  rw [h1]
  simp only [Bool.true_and, Bool.and_eq_true, decide_eq_true_eq]
  rfl
theorem sane4 {a b c d : Int} (h : (-4398046511104 ≤ a ∧ a ≤ 4398046511104) ∧ (-4398046511104 ≤ b ∧ b ≤ 4398046511104) ∧ (-4398046511104 ≤ c ∧ c ≤ 4398046511104) ∧ -4398046511104 ≤ d ∧ d ≤ 4398046511104) : saneM [a, b, c, d] = true := by
  simp [saneM, sane1_iff]; omega
theorem sane5 {a b c d e : Int} (h : (-4398046511104 ≤ a ∧ a ≤ 4398046511104) ∧ (-4398046511104 ≤ b ∧ b ≤ 4398046511104) ∧ (-4398046511104 ≤ c ∧ c ≤ 4398046511104) ∧ (-4398046511104 ≤ d ∧ d ≤ 4398046511104) ∧ -4398046511104 ≤ e ∧ e ≤ 4398046511104) : saneM [a, b, c, d, e] = true := by
  simp [saneM, sane1_iff]; omega
theorem safeM_iff {s v gap : Int} {g : Guess} (h : saneM [s, v, gap, g.R, g.V] = true) : safeM s v gap g = true ↔ Lower ⟨s + gap, v⟩ g := by
  unfold safeM
  rw [h]
  simp only [Bool.true_and, Bool.and_eq_true, decide_eq_true_eq]
  unfold Lower endM
  dsimp only
  constructor <;> rintro ⟨h1, h2⟩ <;> constructor <;> omega
theorem Lower.trans {a b c : Guess} (h : Lower a b) (h' : Lower b c) : Lower a c := ⟨Int.le_trans h.1 h'.1, Int.le_trans h.2 h'.2⟩
theorem emod_bd (n : Int) {m : Int} (hm : 0 < m) : 0 ≤ n % m ∧ n % m < m := ⟨Int.emod_nonneg n (by omega), Int.emod_lt_of_pos n hm⟩
theorem better_eq {g h : Guess} (hs : saneM [g.R, g.V, h.R, h.V] = true) : betterM g h = if g.R ≤ h.R ∧ endM g ≤ endM h then h else g := by
  unfold betterM; rw [if_pos hs]
end Go.Abs.Convoy

namespace Go.Abs.Convoy
open Go Go.Abs

theorem and_cond (c b d : Bool) : (c && cond c b d) = (c && b) := by cases c <;> rfl
theorem or_cond (c b d : Bool) : (c || cond (!c) b d) = (c || b) := by cases c <;> rfl
def within (n a b : Int) : Bool := decide (a ≤ n) && decide (n ≤ b)
theorem convoy_within_eq (n a b : Int) : convoy_within n a b = some (within n a b) := rfl
theorem ref09_between_eq (n a b : Int) : ref09_between n a b = some (within n a b) := rfl
def bodyM (id s v l : Int) : Bool := within id 1 99 && (within s 0 1099511627776 && (within v 0 2000 && within l 300 20000))
def guessM (g : Guess) : Bool := within g.R (-20000) 2199023255552 && within g.V 0 2000
def mateM (m : Mate) : Bool := bodyM m.ID m.S m.V m.Len && (within m.Ahead 0 99 && (within m.Ward 0 99 && (within m.Until 0 2199023255552 && (guessM m.Guess_ && guessM m.WardGuess))))
def guestM (g : Guest) : Bool := bodyM g.ID g.S g.V g.Len && (within g.Ahead 0 99 && (within g.From 0 99 && (within g.Until 0 2199023255552 && (within g.End 0 1099511627776 && guessM g.Guess_))))
def noGuest (g : Guest) : Bool := g.ID == 0 && (g.S == 0 && (g.V == 0 && (g.Len == 0 && (g.End == 0 && (g.Ahead == 0 && (g.Guess_.R == 0 && (g.Guess_.V == 0 && (g.From == 0 && (g.Until == 0 && true)))))))))
theorem fairBody_eq (id s v l : Int) : convoy_fairBody id s v l = some (bodyM id s v l) := by
  unfold convoy_fairBody bodyM
  simp only [convoy_within_eq, cond_some, Option.bind_some, and_cond]
  simp only [within, ge_iff_le, Bool.and_assoc]
theorem moving_eq (id s v l : Int) : ref09_moving id s v l = some (bodyM id s v l) := by
  unfold ref09_moving bodyM
  simp only [ref09_between_eq, cond_some, Option.bind_some, and_cond]
  simp only [Bool.and_assoc]
theorem fairGuess_eq (g : Guess) : convoy_fairGuess g = some (guessM g) := by
  unfold convoy_fairGuess guessM
  simp only [convoy_within_eq, cond_some, Option.bind_some, and_cond]
theorem guessed_eq (g : Guess) : ref09_guessed g = some (guessM g) := by
  unfold ref09_guessed guessM
  simp only [ref09_between_eq, cond_some, Option.bind_some, and_cond]
theorem fairID_eq (n : Int) : convoy_fairID n = some (within n 0 99) := rfl
theorem fairMate_eq (m : Mate) : convoy_fairMate m = some (mateM m) := by
  unfold convoy_fairMate mateM
  simp only [convoy_within_eq, fairBody_eq, fairGuess_eq, fairID_eq, cond_some, Option.bind_some, and_cond]
  simp only [Bool.and_assoc]
theorem ref09_mate_eq (m : Mate) : ref09_mate m = some (mateM m) := by
  unfold ref09_mate mateM
  simp only [ref09_between_eq, moving_eq, guessed_eq, cond_some, Option.bind_some, and_cond]
  simp only [Bool.and_assoc]
theorem fairGuest_eq (g : Guest) : convoy_fairGuest g = some (noGuest g || guestM g) := by
  unfold convoy_fairGuest guestM
  simp only [convoy_within_eq, fairBody_eq, fairGuess_eq, fairID_eq, cond_some, Option.bind_some, and_cond]
  cases h : (g.ID == 0)
  · have : noGuest g = false := by unfold noGuest; rw [h]; rfl
    rw [this]
    simp only [cond_false, Bool.false_or, Bool.and_assoc]
  · have : bodyM g.ID g.S g.V g.Len = false := by
      have e : g.ID = 0 := by simpa using h
      unfold bodyM within; rw [e]; rfl
    rw [this]
    simp only [cond_true, Bool.false_and, Bool.or_false]
    unfold noGuest; rw [h]
theorem ref09_guest_eq (g : Guest) : ref09_guest g = some (guestM g) := by
  unfold ref09_guest guestM
  simp only [ref09_between_eq, moving_eq, guessed_eq, cond_some, Option.bind_some, and_cond]
  simp only [Bool.and_assoc]

/-! ### Loops that look for what is bad -/
def anyI {α : Type} (P : Nat → α → Bool) : Nat → List α → Bool
  | _, [] => false
  | i, a :: r => P i a || anyI P (i + 1) r
theorem scan {α τ : Type} {f : Int → Option (Stp Int (Sum Unit τ))} (l : List α) (P : Nat → α → Bool) (e : τ) (hl : l.length ≤ 1000000000) (k : Nat) (hf : ∀ (i : Nat) a, k ≤ i → l[i]? = some a → f (i : Int) = some (if P i a then .out (.inr e) else .go (w64 ((i : Int) + 1)))) (he : f (l.length : Int) = some (.out (.inl ()))) (hk : k ≤ l.length) :
    loop f (k : Int) = some (if anyI P k (l.drop k) then .inr e else .inl ()) := by
  have key : ∀ (r : List α) (i : Nat), l.drop i = r → k ≤ i → i ≤ l.length → loop f (i : Int) = some (if anyI P i r then .inr e else .inl ()) := by
    intro r
    induction r with
    | nil =>
      intro i hi _ hil
      have := drop_nil hi
      obtain rfl : i = l.length := by omega
      rw [loop_out he]; rfl
    | cons a r ih =>
      intro i hi hki _
      have hlt := drop_lt hi
      have h0 : l[i]? = some a := by have := congrArg (fun z => z[0]?) hi; simpa using this
      have hs := hf i a hki h0
      rw [anyI]
      cases hp : P i a
      · rw [hp] at hs
        simp only [Bool.false_eq_true, if_false] at hs
        rw [w64_id (by omega)] at hs
        rw [loop_go hs, show ((i : Int) + 1) = ((i + 1 : Nat) : Int) by omega, ih (i + 1) (drop_succ hi) (by omega) (by omega), Bool.false_or]
      · rw [hp] at hs
        rw [loop_out hs]; rfl
  exact key _ k rfl (Nat.le_refl _) hk
theorem anyI_any {α : Type} (P : α → Bool) : ∀ (l : List α) (i : Nat), anyI (fun _ => P) i l = l.any P
  | [], _ => rfl
  | a :: r, i => by rw [anyI, anyI_any P r, List.any_cons]
theorem contains_numbers (l : List Mate) (hl : l.length ≤ 1000000000) : slices_ContainsFunc_Mate_Mate_convoy_numbers_1 l = some (l.any fun m => !mateM m) := by
  unfold slices_ContainsFunc_Mate_Mate_convoy_numbers_1 slices_IndexFunc_Mate_Mate_convoy_numbers_1
  rw [index_eq l (fun m => !mateM m) hl (fun i a h => by
    have := get_lt h
    unfold slices_IndexFunc_Mate_Mate_convoy_numbers_1_l1 convoy_numbers_1
    rw [show decide ((i : Int) < (l.length : Int)) = true from decide_eq_true (by omega), geti_some h]
    simp only [cond_true, Option.bind_some, fairMate_eq]
    cases mateM a <;> rfl) (by
    unfold slices_IndexFunc_Mate_Mate_convoy_numbers_1_l1
    simp)]
  simp only [Option.bind_some, idxI_any]
/-- The error of the numbers. -/
def numM (c : Convoy) : Int := if !within c.Tick 0 1099511627776 || !within c.Gap 1 20000 then 2 else if c.Mates.length = 0 then 6 else if c.Mates.length + (if noGuest c.Guest_ then 0 else 1) > 8 then 8 else if (c.Mates.any fun m => !mateM m) || !(noGuest c.Guest_ || guestM c.Guest_) then 2 else 0
theorem many_eq (c : Convoy) (hl : c.Mates.length ≤ 1000000) : (cond (!(noGuest c.Guest_)) (some (w64 ((c.Mates.length : Int) + 1))) (some (c.Mates.length : Int))) = some (((c.Mates.length + (if noGuest c.Guest_ then 0 else 1) : Nat)) : Int) := by
  cases noGuest c.Guest_
  · simp only [Bool.not_false, cond_true]; rw [w64_id (by omega)]; rfl
  · rfl
theorem convoy_numbers_eq (c : Convoy) (hl : c.Mates.length ≤ 1000000) : convoy_numbers c = some (numM c) := by
  unfold convoy_numbers numM
  have hm := many_eq c hl
  unfold noGuest at hm
  rw [hm, Option.bind_some]
  clear hm
  change _ = some (if !within c.Tick 0 1099511627776 || !within c.Gap 1 20000 then 2 else if c.Mates.length = 0 then 6 else if c.Mates.length + (if noGuest c.Guest_ then 0 else 1) > 8 then 8 else if (c.Mates.any fun m => !mateM m) || !(noGuest c.Guest_ || guestM c.Guest_) then 2 else 0)
  change ((convoy_within c.Tick 0 1099511627776).bind fun v1 => ((cond (!(!v1)) (convoy_within c.Gap 1 20000) (some default))).bind fun v2 => cond ((!v1) || (!v2)) (some 2) (cond ((c.Mates.length : Int) == 0) (some 6) (cond (decide (((c.Mates.length + (if noGuest c.Guest_ then 0 else 1) : Nat) : Int) > 8)) (some 8) ((slices_ContainsFunc_Mate_Mate_convoy_numbers_1 c.Mates).bind fun v3 => ((cond (!v3) (convoy_fairGuest c.Guest_) (some default))).bind fun v4 => cond (v3 || (!v4)) (some 2) (some 0))))) = _
  simp only [convoy_within_eq, Bool.not_not, Option.bind_some, cond_some, contains_numbers c.Mates (by omega), fairGuest_eq]
  have e1 : (!within c.Tick 0 1099511627776 || !(cond (within c.Tick 0 1099511627776) (within c.Gap 1 20000) default)) = (!within c.Tick 0 1099511627776 || !within c.Gap 1 20000) := by cases within c.Tick 0 1099511627776 <;> rfl
  have e2 : ∀ a b d : Bool, (a || !(cond (!a) b d)) = (a || !b) := by intro a b d; cases a <;> rfl
  rw [e1, e2]
  generalize (!within c.Tick 0 1099511627776 || !within c.Gap 1 20000) = b1
  generalize ((c.Mates.any fun m => !mateM m) || !(noGuest c.Guest_ || guestM c.Guest_)) = b2
  cases b1
  · simp only [cond_false, Bool.false_eq_true, if_false]
    by_cases h0 : c.Mates.length = 0
    · rw [h0]; rfl
    · rw [show ((c.Mates.length : Int) == 0) = false by simpa using h0, if_neg h0]
      simp only [cond_false]
      by_cases h8 : c.Mates.length + (if noGuest c.Guest_ then 0 else 1) > 8
      · rw [if_pos h8, show decide (((c.Mates.length + (if noGuest c.Guest_ then 0 else 1) : Nat) : Int) > 8) = true from decide_eq_true (by omega)]; rfl
      · rw [if_neg h8, show decide (((c.Mates.length + (if noGuest c.Guest_ then 0 else 1) : Nat) : Int) > 8) = false from decide_eq_false (by omega)]
        cases b2 <;> rfl
  · rfl
end Go.Abs.Convoy

namespace Go.Abs.Convoy
open Go Go.Abs

/-! ### IDs, the order, states, clashes -/
def dupP (c : Convoy) (i : Nat) (m : Mate) : Bool := (c.Mates.take i).any (fun k => k.ID == m.ID) || m.ID == c.Guest_.ID
def ordP (c : Convoy) (i : Nat) (m : Mate) : Bool := decide (0 < i) && (match c.Mates[i - 1]? with | some k => decide (w64 (k.S - k.Len) ≤ m.S) | none => false)
def staP (i : Nat) (m : Mate) : Bool := ((i == 0) && m.Ahead != 0) || ((decide (0 < i) && m.Ahead == 0) && m.Until == 0) || (m.Ward == 0 && m.Until != 0)
def keepM (gap : Int) (m : Mate) (s v : Int) (g w : Guess) : Bool := (m.Ahead == 0 || safeM s v gap g) && (m.Until == 0 || safeM s v gap w)
def guestBad (c : Convoy) : Bool := (c.Guest_.ID != 0) && decide (c.Guest_.End ≤ w64 (c.Guest_.S + stopM c.Guest_.V))
def ordM (c : Convoy) : Int := if anyI (dupP c) 0 c.Mates then 9 else if anyI (ordP c) 0 c.Mates then 11 else 0
theorem mem_insm (ks : List Int) (n m : Int) : (insm ks n).contains m = (ks.contains m || m == n) := by
  unfold insm
  rw [Bool.eq_iff_iff]
  split
  · rename_i h
    simp only [List.contains_eq_mem, decide_eq_true_eq, Bool.or_eq_true, beq_iff_eq]
    constructor
    · exact .inl
    · rintro (q | rfl)
      · exact q
      · exact h
  · simp
theorem orders_l1 (c : Convoy) (hl : c.Mates.length ≤ 1000000) : ∀ (r : List Mate) (i : Nat) (ks : List Int), c.Mates.drop i = r → (∀ m, ks.contains m = ((c.Mates.take i).any (fun k => k.ID == m) || m == c.Guest_.ID)) → loop (convoy_orders_l1 c) ((i : Int), ks) = some (if anyI (dupP c) i r then .inr 9 else .inl ()) := by
  intro r
  induction r with
  | nil =>
    intro i ks hi _
    have := drop_nil hi
    refine loop_out ?_
    unfold convoy_orders_l1
    rw [show decide ((i : Int) < (c.Mates.length : Int)) = false from decide_eq_false (by omega)]; rfl
  | cons a r ih =>
    intro i ks hi hks
    have hlt := drop_lt hi
    have hd : ks.contains a.ID = dupP c i a := hks a.ID
    have hs : convoy_orders_l1 c ((i : Int), ks) = some (if dupP c i a then .out (.inr 9) else .go (((i + 1 : Nat) : Int), insm ks a.ID)) := by
      unfold convoy_orders_l1
      rw [show decide ((i : Int) < (c.Mates.length : Int)) = true from decide_eq_true (by omega)]
      dsimp only
      rw [geti_drop hi, w64_id (by omega)]
      simp only [cond_true, Option.bind_some, hd]
      cases dupP c i a <;> rfl
    rw [anyI]
    cases hp : dupP c i a
    · rw [hp] at hs
      rw [loop_go hs, Bool.false_or]
      refine ih (i + 1) _ (drop_succ hi) fun m => ?_
      rw [mem_insm, hks m]
      have h0 : c.Mates[i]? = some a := by have := congrArg (fun z => z[0]?) hi; simpa using this
      rw [List.take_add_one, h0]
      simp only [List.any_append, Option.toList_some, List.any_cons, List.any_nil, Bool.or_false]
      rw [Bool.beq_comm (a := m) (b := a.ID)]
      cases (c.Mates.take i).any (fun k => k.ID == m) <;> cases (m == c.Guest_.ID) <;> cases (a.ID == m) <;> rfl
    · rw [hp] at hs
      rw [loop_out hs]; rfl
theorem convoy_rear_eq (m : Mate) : convoy_rear m = some (w64 (m.S - m.Len)) := rfl
theorem ref09_rear_eq (m : Mate) : ref09_rear m = some (w64 (m.S - m.Len)) := rfl
theorem ord_at {c : Convoy} (hl : c.Mates.length ≤ 1000000) {i : Nat} {m : Mate} (hi : 0 < i) (h : c.Mates[i]? = some m) : ∃ k, geti c.Mates (w64 ((i : Int) - 1)) = some k ∧ ordP c i m = decide (w64 (k.S - k.Len) ≤ m.S) ∧ c.Mates[i - 1]? = some k := by
  have hlt := get_lt h
  have : i - 1 < c.Mates.length := by omega
  refine ⟨c.Mates[i - 1], ?_, ?_, List.getElem?_eq_getElem this⟩
  · rw [w64_id (by omega), show (i : Int) - 1 = ((i - 1 : Nat) : Int) by omega, geti_nat this]
  · unfold ordP
    rw [List.getElem?_eq_getElem this, show decide (0 < i) = true from decide_eq_true hi, Bool.true_and]
theorem convoy_orders_eq (c : Convoy) (hl : c.Mates.length ≤ 1000000) : convoy_orders c = some (ordM c) := by
  unfold convoy_orders ordM
  have h1 := orders_l1 c hl c.Mates 0 (insm [] c.Guest_.ID) rfl (fun m => by
    rw [mem_insm]; simp)
  rw [show ((0 : Nat) : Int) = 0 from rfl] at h1
  rw [h1]
  cases anyI (dupP c) 0 c.Mates
  · have h2 := scan (f := convoy_orders_l2 c) c.Mates (ordP c) (11 : Int) (by omega) 0 (fun i a _ h => by
      have hlt := get_lt h
      unfold convoy_orders_l2
      rw [show decide ((i : Int) < (c.Mates.length : Int)) = true from decide_eq_true (by omega), geti_some h]
      simp only [cond_true, Option.bind_some]
      by_cases hi : 0 < i
      · obtain ⟨k, e1, e2, _⟩ := ord_at hl hi h
        rw [show decide ((i : Int) > 0) = true from decide_eq_true (by omega), e1, e2]
        simp only [cond_true, Option.bind_some, convoy_rear_eq, Bool.true_and, ge_iff_le]
        cases decide (w64 (k.S - k.Len) ≤ a.S) <;> rfl
      · have : ordP c i a = false := by unfold ordP; rw [show decide (0 < i) = false from decide_eq_false hi]; rfl
        rw [show decide ((i : Int) > 0) = false from decide_eq_false (by omega), this]
        rfl) (by unfold convoy_orders_l2; simp) (by omega)
    rw [show ((0 : Nat) : Int) = 0 from rfl, List.drop_zero] at h2
    simp only [Bool.false_eq_true, if_false, thenS]
    rw [h2]
    cases anyI (ordP c) 0 c.Mates <;> rfl
  · rfl
theorem ref_l3 (c : Convoy) (hl : c.Mates.length ≤ 1000000) {i : Nat} {m : Mate} (h : c.Mates[i]? = some m) : loop (ref09_numbers_l3 c (i : Int)) 0 = some (if (c.Mates.take i).any (fun k => k.ID == m.ID) then .inr 9 else .inl ()) := by
  have hlt := get_lt h
  have hlen : (c.Mates.take i).length = i := by rw [List.length_take]; omega
  have := scan (f := ref09_numbers_l3 c (i : Int)) (c.Mates.take i) (fun _ k => k.ID == m.ID) (9 : Int) (by omega) 0 (fun j a _ ha => by
    have hj := get_lt ha
    rw [hlen] at hj
    have ha' : c.Mates[j]? = some a := by rw [List.getElem?_take, if_pos hj] at ha; exact ha
    unfold ref09_numbers_l3
    rw [show decide ((j : Int) < (i : Int)) = true from decide_eq_true (by omega), geti_some ha', geti_some h]
    simp only [cond_true, Option.bind_some]
    cases (a.ID == m.ID) <;> rfl) (by
    rw [hlen]
    unfold ref09_numbers_l3; simp) (by omega)
  rw [show ((0 : Nat) : Int) = 0 from rfl, List.drop_zero, anyI_any] at this
  exact this
theorem ref09_numbers_eq (c : Convoy) (hl : c.Mates.length ≤ 1000000) : ref09_numbers c = some (if numM c ≠ 0 then numM c else if anyI (dupP c) 0 c.Mates then 9 else 0) := by
  unfold ref09_numbers
  have hm := many_eq c hl
  have h1 := scan (f := ref09_numbers_l1 c) c.Mates (fun _ m => !mateM m) (2 : Int) (by omega) 0 (fun i a _ h => by
    have hlt := get_lt h
    unfold ref09_numbers_l1
    rw [show decide ((i : Int) < (c.Mates.length : Int)) = true from decide_eq_true (by omega), geti_some h]
    simp only [cond_true, Option.bind_some, ref09_mate_eq]
    cases mateM a <;> rfl) (by unfold ref09_numbers_l1; simp) (by omega)
  have h2 := scan (f := ref09_numbers_l2 c) c.Mates (dupP c) (9 : Int) (by omega) 0 (fun i a _ h => by
    have hlt := get_lt h
    unfold ref09_numbers_l2
    rw [show decide ((i : Int) < (c.Mates.length : Int)) = true from decide_eq_true (by omega), ref_l3 c hl h, geti_some h]
    unfold dupP
    cases (c.Mates.take i).any (fun k => k.ID == a.ID)
    · simp only [cond_true, Bool.false_eq_true, if_false, thenS, Option.bind_some, Bool.false_or]
      cases (a.ID == c.Guest_.ID) <;> rfl
    · rfl) (by unfold ref09_numbers_l2; simp) (by omega)
  rw [show ((0 : Nat) : Int) = 0 from rfl, List.drop_zero] at h1 h2
  rw [anyI_any] at h1
  change ((ref09_between c.Tick 0 1099511627776).bind fun v1 => ((cond (!(!v1)) (ref09_between c.Gap 1 20000) (some default))).bind fun v2 => cond ((!v1) || (!v2)) (some 2) (cond ((c.Mates.length : Int) == 0) (some 6) ((cond (!(noGuest c.Guest_)) (some (w64 ((c.Mates.length : Int) + 1))) (some (c.Mates.length : Int))).bind fun y1 => cond (decide (y1 > 8)) (some 8) (thenS (loop (ref09_numbers_l1 c) 0) (fun _ => ((cond (!(noGuest c.Guest_)) (ref09_guest c.Guest_) (some default))).bind fun v5 => cond ((!(noGuest c.Guest_)) && (!v5)) (some 2) (thenS (loop (ref09_numbers_l2 c) 0) (fun _ => some 0) (fun r => some r))) (fun r => some r))))) = _
  rw [hm, h1, h2]
  simp only [ref09_between_eq, Bool.not_not, Option.bind_some, cond_some, ref09_guest_eq]
  have e1 : (!within c.Tick 0 1099511627776 || !(cond (within c.Tick 0 1099511627776) (within c.Gap 1 20000) default)) = (!within c.Tick 0 1099511627776 || !within c.Gap 1 20000) := by cases within c.Tick 0 1099511627776 <;> rfl
  have e2 : ∀ a b d : Bool, (!a && !(cond (!a) b d)) = (!a && !b) := by intro a b d; cases a <;> rfl
  rw [e1, e2]
  unfold numM
  generalize (!within c.Tick 0 1099511627776 || !within c.Gap 1 20000) = b1
  cases b1
  · simp only [cond_false, Bool.false_eq_true, if_false]
    by_cases h0 : c.Mates.length = 0
    · rw [h0]; rfl
    · rw [show ((c.Mates.length : Int) == 0) = false by simpa using h0, if_neg h0]
      simp only [cond_false]
      by_cases h8 : c.Mates.length + (if noGuest c.Guest_ then 0 else 1) > 8
      · rw [if_pos h8, show decide (((c.Mates.length + (if noGuest c.Guest_ then 0 else 1) : Nat) : Int) > 8) = true from decide_eq_true (by omega)]; rfl
      · rw [if_neg h8, show decide (((c.Mates.length + (if noGuest c.Guest_ then 0 else 1) : Nat) : Int) > 8) = false from decide_eq_false (by omega)]
        cases (c.Mates.any fun m => !mateM m)
        · cases noGuest c.Guest_ <;> cases guestM c.Guest_ <;> cases anyI (dupP c) 0 c.Mates <;> rfl
        · rfl
  · rfl
theorem keeps_eq (gap : Int) (m : Mate) (s v : Int) (g w : Guess) : convoy_keeps gap m s v g w = some (keepM gap m s v g w) := by
  unfold convoy_keeps keepM
  simp only [convoy_Safe_eq, cond_some, Option.bind_some]
  cases (m.Ahead == 0) <;> cases safeM s v gap g <;> cases (m.Until == 0) <;> rfl
def clashP (c : Convoy) (m : Mate) : Bool := !keepM c.Gap m m.S m.V m.Guess_ m.WardGuess
theorem contains_Check (c : Convoy) (hl : c.Mates.length ≤ 1000000) : slices_ContainsFunc_Mate_Mate_convoy_Check_1b c.Mates c = some (c.Mates.any (clashP c)) := by
  unfold slices_ContainsFunc_Mate_Mate_convoy_Check_1b slices_IndexFunc_Mate_Mate_convoy_Check_1b
  rw [index_eq c.Mates (clashP c) (by omega) (fun i a h => by
    have := get_lt h
    unfold slices_IndexFunc_Mate_Mate_convoy_Check_1b_l1 convoy_Check_1_b
    rw [show decide ((i : Int) < (c.Mates.length : Int)) = true from decide_eq_true (by omega), geti_some h]
    simp only [cond_true, Option.bind_some, keeps_eq]
    unfold clashP
    cases keepM c.Gap a a.S a.V a.Guess_ a.WardGuess <;> rfl) (by
    unfold slices_IndexFunc_Mate_Mate_convoy_Check_1b_l1
    simp)]
  simp only [Option.bind_some, idxI_any]
/-- The error of a convoy. -/
def chkM (c : Convoy) : Int := if numM c ≠ 0 then numM c else if ordM c ≠ 0 then ordM c else if anyI staP 0 c.Mates then 10 else if c.Mates.any (clashP c) || guestBad c then 12 else 0
theorem sta_eq (i : Nat) (m : Mate) : (((((i : Int) == 0) && (m.Ahead != 0)) || (((decide ((i : Int) > 0)) && (m.Until == 0)) && (m.Ahead == 0))) || ((m.Ward == 0) && (m.Until != 0))) = staP i m := by
  unfold staP
  rw [show (((i : Int) == 0) = (i == 0)) by rw [Bool.eq_iff_iff]; simp, show decide ((i : Int) > 0) = decide (0 < i) by rw [Bool.eq_iff_iff]; simp]
  cases (i == 0) <;> cases decide (0 < i) <;> cases (m.Until == 0) <;> cases (m.Ahead == 0) <;> rfl
theorem convoy_Check_eq (c : Convoy) (hl : c.Mates.length ≤ 1000000) : convoy_Check c = some (chkM c) := by
  unfold convoy_Check chkM
  rw [convoy_numbers_eq c hl, Option.bind_some]
  by_cases h1 : numM c = 0
  · rw [if_neg (by simpa using h1), show (numM c != 0) = false by simpa using h1, cond_false, convoy_orders_eq c hl, Option.bind_some]
    by_cases h2 : ordM c = 0
    · rw [if_neg (by simpa using h2), show (ordM c != 0) = false by simpa using h2, cond_false]
      have h3 := scan (f := convoy_Check_l1 c) c.Mates staP (10 : Int) (by omega) 0 (fun i a _ h => by
        have hlt := get_lt h
        unfold convoy_Check_l1
        rw [show decide ((i : Int) < (c.Mates.length : Int)) = true from decide_eq_true (by omega), geti_some h]
        simp only [cond_true, Option.bind_some]
        rw [sta_eq]
        cases staP i a <;> rfl) (by unfold convoy_Check_l1; simp) (by omega)
      rw [show ((0 : Nat) : Int) = 0 from rfl, List.drop_zero] at h3
      rw [h3]
      cases anyI staP 0 c.Mates
      · simp only [Bool.false_eq_true, if_false, thenS, contains_Check c hl, Option.bind_some, convoy_stop_eq, cond_some]
        unfold guestBad
        cases c.Mates.any (clashP c)
        · simp only [Bool.not_false, Bool.true_and, Bool.false_or]
          cases (c.Guest_.ID != 0)
          · rfl
          · simp only [cond_true, Bool.true_and, ge_iff_le]
            cases decide (c.Guest_.End ≤ w64 (c.Guest_.S + stopM c.Guest_.V)) <;> rfl
        · rfl
      · rfl
    · rw [if_pos h2, show (ordM c != 0) = true by simpa using h2]; rfl
  · rw [if_pos h1, show (numM c != 0) = true by simpa using h1]; rfl
theorem sta_eq2 (i : Nat) (m : Mate) : (((((i : Int) == 0) && (m.Ahead != 0)) || (((decide ((i : Int) > 0)) && (m.Ahead == 0)) && (m.Until == 0))) || ((m.Ward == 0) && (m.Until != 0))) = staP i m := by
  rw [← sta_eq]
  cases ((i : Int) == 0) <;> cases decide ((i : Int) > 0) <;> cases (m.Until == 0) <;> cases (m.Ahead == 0) <;> rfl
theorem ord_drop (c : Convoy) : anyI (ordP c) 1 (c.Mates.drop 1) = anyI (ordP c) 0 c.Mates := by
  cases h : c.Mates with
  | nil => rfl
  | cons a r =>
    rw [List.drop_one, List.tail_cons]
    conv => rhs; rw [anyI]
    have : ordP c 0 a = false := rfl
    rw [this, Bool.false_or]
theorem ref09_Check_eq (c : Convoy) (hl : c.Mates.length ≤ 1000000) : ref09_Check c = some (chkM c) := by
  unfold ref09_Check chkM
  rw [ref09_numbers_eq c hl, Option.bind_some]
  by_cases h1 : numM c = 0
  · have e : ∀ a b : Int, (if numM c ≠ 0 then a else b) = b := fun a b => if_neg (by simpa using h1)
    rw [e, e]
    unfold ordM
    cases hd : anyI (dupP c) 0 c.Mates
    · simp only [Bool.false_eq_true, if_false, bne_self_eq_false, cond_false]
      have hpos : 1 ≤ c.Mates.length := by
        rcases Nat.eq_zero_or_pos c.Mates.length with h | h
        · exfalso
          unfold numM at h1
          rw [if_pos h] at h1
          split at h1 <;> cases h1
        · exact h
      have h2 := scan (f := ref09_Check_l1 c) c.Mates (ordP c) (11 : Int) (by omega) 1 (fun i a hi h => by
        have hlt := get_lt h
        obtain ⟨k, e1, e2, _⟩ := ord_at hl hi h
        unfold ref09_Check_l1
        rw [show decide ((i : Int) < (c.Mates.length : Int)) = true from decide_eq_true (by omega), geti_some h]
        simp only [cond_true, Option.bind_some]
        rw [e1, e2]
        simp only [Option.bind_some, ref09_rear_eq, ge_iff_le]
        cases decide (w64 (k.S - k.Len) ≤ a.S) <;> rfl) (by unfold ref09_Check_l1; simp) hpos
      rw [show ((1 : Nat) : Int) = 1 from rfl, ord_drop] at h2
      rw [h2]
      cases anyI (ordP c) 0 c.Mates
      · simp only [Bool.false_eq_true, if_false, thenS]
        have h3 := scan (f := ref09_Check_l2 c) c.Mates staP (10 : Int) (by omega) 0 (fun i a _ h => by
          have hlt := get_lt h
          unfold ref09_Check_l2
          rw [show decide ((i : Int) < (c.Mates.length : Int)) = true from decide_eq_true (by omega), geti_some h]
          simp only [cond_true, Option.bind_some]
          rw [sta_eq2]
          cases staP i a <;> rfl) (by unfold ref09_Check_l2; simp) (by omega)
        have h4 := scan (f := ref09_Check_l3 c) c.Mates (fun _ => clashP c) (12 : Int) (by omega) 0 (fun i a _ h => by
          have hlt := get_lt h
          unfold ref09_Check_l3
          rw [show decide ((i : Int) < (c.Mates.length : Int)) = true from decide_eq_true (by omega), geti_some h]
          simp only [cond_true, Option.bind_some, ref09_Safe_eq, cond_some]
          unfold clashP keepM
          rw [show (a.Ahead != 0) = !(a.Ahead == 0) from rfl, show (a.Until != 0) = !(a.Until == 0) from rfl]
          cases (a.Ahead == 0) <;> cases safeM a.S a.V c.Gap a.Guess_ <;> cases (a.Until == 0) <;> cases safeM a.S a.V c.Gap a.WardGuess <;> rfl) (by unfold ref09_Check_l3; simp) (by omega)
        rw [show ((0 : Nat) : Int) = 0 from rfl, List.drop_zero] at h3 h4
        rw [anyI_any] at h4
        rw [h3]
        cases anyI staP 0 c.Mates
        · simp only [Bool.false_eq_true, if_false, ne_eq, not_true_eq_false]
          rw [h4]
          cases c.Mates.any (clashP c)
          · simp only [Bool.false_eq_true, if_false, Option.bind_some, ref09_stop_eq, cond_some, Bool.false_or]
            unfold guestBad
            cases (c.Guest_.ID != 0)
            · rfl
            · simp only [cond_true, Bool.true_and, ge_iff_le]
              cases decide (c.Guest_.End ≤ w64 (c.Guest_.S + stopM c.Guest_.V)) <;> rfl
          · rfl
        · rfl
      · rfl
    · rfl
  · rw [if_pos h1, if_pos h1, show (numM c != 0) = true by simpa using h1]; rfl
end Go.Abs.Convoy

namespace Go.Abs.Convoy
open Go Go.Abs

/-! ### Numbers drawn from a ring -/
theorem next_ok (r : KitRing) {k : Int} (h0 : 0 ≤ r.at_) (h1 : r.at_ ≤ 1000000000) (hk : 0 < k) (hk2 : k ≤ 1000000000) : ∃ x, kit_Ring_Next_o r k = some (x, ⟨r.l, r.at_ + 1⟩) ∧ 0 ≤ x ∧ x < k := by
  have e1 : ∀ n : Int, 0 ≤ n → n ≤ 9000000000000 → remc n k = some (n % k) := fun n a b => by
    unfold remc
    rw [if_neg (by omega), Int.tmod_eq_emod_of_nonneg a]
  have b1 : ∀ n : Int, 0 ≤ n % k ∧ n % k < k := fun n => ⟨Int.emod_nonneg _ (by omega), Int.emod_lt_of_pos _ hk⟩
  unfold kit_Ring_Next_o
  rw [w64_id (n := r.at_ + 1) (by omega), w64_id (n := (r.at_ + 1) * 7919) (by omega), Int.tmod_eq_emod_of_nonneg (show 0 ≤ (r.at_ + 1) * 7919 by omega)]
  by_cases hl : (r.l.length : Int) > 0
  · rw [show decide ((r.l.length : Int) > 0) = true from decide_eq_true hl, cond_true]
    have e2 : remc (r.at_ + 1) (r.l.length : Int) = some ((r.at_ + 1) % (r.l.length : Int)) := by
      unfold remc
      rw [if_neg (by omega), Int.tmod_eq_emod_of_nonneg (by omega)]
    have b2 := Int.emod_nonneg (r.at_ + 1) (show (r.l.length : Int) ≠ 0 by omega)
    have b3 := Int.emod_lt_of_pos (r.at_ + 1) hl
    rw [e2, Option.bind_some]
    obtain ⟨j, hj⟩ : ∃ j : Nat, (r.at_ + 1) % (r.l.length : Int) = (j : Int) := ⟨_, (Int.toNat_of_nonneg b2).symm⟩
    rw [hj, geti_nat (show j < r.l.length by omega), Option.bind_some, (kit_Mod_eq (n := r.l[j]'(by omega)) (m := 1048576) (by decide) (by decide)).1, Option.bind_some]
    generalize hv : (r.l[j]'(by omega)) % 1048576 = v
    have v0 : 0 ≤ v := by rw [← hv]; exact Int.emod_nonneg _ (by decide)
    have v1 : v < 1048576 := by rw [← hv]; exact Int.emod_lt_of_pos _ (by decide)
    have q0 : 0 ≤ (r.at_ + 1) / (r.l.length : Int) := Int.ediv_nonneg (by omega) (by omega)
    have q1 : (r.at_ + 1) / (r.l.length : Int) ≤ r.at_ + 1 := Int.ediv_le_self _ (by omega)
    have e3 : quoc .i64 (r.at_ + 1) (r.l.length : Int) = some ((r.at_ + 1) / (r.l.length : Int)) := by
      unfold quoc
      rw [if_neg (by omega), Int.tdiv_eq_ediv_of_nonneg (by omega)]
      rw [show IntKind.i64.wrap ((r.at_ + 1) / (r.l.length : Int)) = _ from w64_id (by omega)]
    rw [e3, Option.bind_some]
    generalize (r.at_ + 1) / (r.l.length : Int) = q at q0 q1
    rw [w64_id (n := 1 + q) (by omega)]
    have p0 : 0 ≤ v / (1 + q) := Int.ediv_nonneg v0 (by omega)
    have p1 : v / (1 + q) ≤ v := Int.ediv_le_self _ v0
    have e4 : quoc .i64 v (1 + q) = some (v / (1 + q)) := by
      unfold quoc
      rw [if_neg (by omega), Int.tdiv_eq_ediv_of_nonneg v0]
      rw [show IntKind.i64.wrap (v / (1 + q)) = _ from w64_id (by omega)]
    rw [e4, Option.bind_some]
    have c0 := Int.emod_nonneg ((r.at_ + 1) * 7919) (show (10007 : Int) ≠ 0 by decide)
    have c1 := Int.emod_lt_of_pos ((r.at_ + 1) * 7919) (show (0 : Int) < 10007 by decide)
    rw [w64_id (by omega), e1 _ (by omega) (by omega), Option.bind_some]
    exact ⟨_, rfl, b1 _⟩
  · rw [show decide ((r.l.length : Int) > 0) = false from decide_eq_false hl, cond_false]
    have c0 := Int.emod_nonneg ((r.at_ + 1) * 7919) (show (10007 : Int) ≠ 0 by decide)
    have c1 := Int.emod_lt_of_pos ((r.at_ + 1) * 7919) (show (0 : Int) < 10007 by decide)
    rw [e1 _ (by omega) (by omega), Option.bind_some]
    exact ⟨_, rfl, b1 _⟩

/-! ### The kit's mates -/
theorem stop2000 {v : Int} (h : v ≤ 2000) : 0 ≤ stopM v ∧ stopM v ≤ 21230 := by
  refine ⟨(stopM_nonneg v).1, ?_⟩
  have := stop_mono h (by decide)
  have e : stopM 2000 = 21230 := by decide
  omega
/-- The numbers of a mate of the kit. -/
def KitM (m : Mate) : Prop := (16000000 ≤ m.S ∧ m.S ≤ 16777216) ∧ (0 ≤ m.V ∧ m.V ≤ 2000) ∧ (300 ≤ m.Len ∧ m.Len ≤ 6299)
theorem safe_lit {s v gap : Int} {g : Guess} (hs : -100000000 ≤ s ∧ s ≤ 100000000) (hv : 0 ≤ v ∧ v ≤ 2000) (hg : -100000000 ≤ gap ∧ gap ≤ 100000000) (hr : -100000000 ≤ g.R ∧ g.R ≤ 100000000) (hw : 0 ≤ g.V ∧ g.V ≤ 2000) :
    safeM s v gap g = (decide (s ≤ g.R - gap) && decide (s + stopM v ≤ endM g - gap)) := by
  have a := stopM_nonneg v
  have b := stopM_nonneg g.V
  unfold safeM
  have : saneM [s, v, gap, g.R, g.V] = true := by
    simp only [saneM, List.all_cons, List.all_nil, Bool.and_true, Bool.and_eq_true, sane1_iff]
    omega
  rw [this]
  simp only [Bool.true_and]
theorem l2_ok (gap : Int) (k : Mate) (hk : KitM k) (hg : 1 ≤ gap ∧ gap ≤ 3000) : ∀ (n : Nat) (m : Mate), n ≤ 100 → m.S ≤ k.S - k.Len - gap → stopM m.V - stopM k.V - 500 * n ≤ k.S - k.Len - gap - m.S → 0 ≤ m.V ∧ m.V ≤ 2000 → 15000000 + 500 * n ≤ m.S →
    ∃ s, loop (kit_Mates_o_l2 gap k) m = some { m with S := s } ∧ s ≤ m.S ∧ m.S - 500 * n ≤ s ∧ safeM s m.V gap ⟨k.S - k.Len, k.V⟩ = true := by
  obtain ⟨⟨k1, k2⟩, k3, k4⟩ := hk
  intro n
  induction n with
  | zero =>
    intro m _ h1 h2 h3 h4
    have sf : safeM m.S m.V gap ⟨k.S - k.Len, k.V⟩ = true := by
      rw [safe_lit (by omega) h3 (by omega) (by dsimp only; omega) k3]
      unfold endM
      simp only [Bool.and_eq_true, decide_eq_true_eq]
      omega
    refine ⟨m.S, loop_out ?_, Int.le_refl _, by omega, sf⟩
    unfold kit_Mates_o_l2
    rw [w64_id (n := k.S - k.Len) (by omega), ref09_Safe_eq, sf]; rfl
  | succ n ih =>
    intro m hn h1 h2 h3 h4
    cases sf : safeM m.S m.V gap ⟨k.S - k.Len, k.V⟩
    · obtain ⟨s, e, a, b, c⟩ := ih { m with S := m.S - 500 } (by omega) (by dsimp only; omega) (by dsimp only; omega) h3 (by dsimp only; omega)
      refine ⟨s, ?_, by dsimp only at a; omega, by dsimp only at b; omega, c⟩
      rw [loop_go (s' := { m with S := m.S - 500 }) ?_, e]
      unfold kit_Mates_o_l2
      rw [w64_id (n := k.S - k.Len) (by omega), ref09_Safe_eq, sf, w64_id (n := m.S - 500) (by omega)]; rfl
    · refine ⟨m.S, loop_out ?_, Int.le_refl _, by omega, sf⟩
      unfold kit_Mates_o_l2
      rw [w64_id (n := k.S - k.Len) (by omega), ref09_Safe_eq, sf]; rfl
/-- A list of mates of the kit: each is safe behind the one ahead. -/
def Chn (gap : Int) (l : List Mate) : Prop := ∀ (i : Nat) m, l[i]? = some m → KitM m ∧ 16777216 - 50000 * (i : Int) ≤ m.S ∧ (0 < i → ∃ k, l[i - 1]? = some k ∧ m.S ≤ k.S - k.Len - gap ∧ safeM m.S m.V gap ⟨k.S - k.Len, k.V⟩ = true)
theorem chn_snoc {gap : Int} {l : List Mate} {y : Mate} (h : Chn gap l) (hy : KitM y ∧ 16777216 - 50000 * (l.length : Int) ≤ y.S ∧ (0 < l.length → ∃ k, l[l.length - 1]? = some k ∧ y.S ≤ k.S - k.Len - gap ∧ safeM y.S y.V gap ⟨k.S - k.Len, k.V⟩ = true)) : Chn gap (l ++ [y]) := by
  intro i m hm
  by_cases hi : i < l.length
  · rw [List.getElem?_append_left hi] at hm
    obtain ⟨a, b, c⟩ := h i m hm
    refine ⟨a, b, fun h0 => ?_⟩
    obtain ⟨k, e, d⟩ := c h0
    exact ⟨k, by rw [List.getElem?_append_left (by omega)]; exact e, d⟩
  · have hlt := get_lt hm
    simp only [List.length_append, List.length_cons, List.length_nil] at hlt
    obtain rfl : i = l.length := by omega
    rw [List.getElem?_append_right (Nat.le_refl _), Nat.sub_self] at hm
    obtain rfl : y = m := by simpa using hm
    refine ⟨hy.1, hy.2.1, fun h0 => ?_⟩
    obtain ⟨k, e, d⟩ := hy.2.2 h0
    exact ⟨k, by rw [List.getElem?_append_left (by omega)]; exact e, d⟩
theorem mates_l1 (gap : Int) (hg : 1 ≤ gap ∧ gap ≤ 3000) : ∀ (n : Nat) (l : List Mate) (r : KitRing), Chn gap l → 1 ≤ l.length → l.length + n ≤ 10 → 0 ≤ r.at_ → r.at_ + 4 * n ≤ 1000000000 →
    ∃ l', loop (kit_Mates_o_l1 gap) (l, (n : Int), r) = some (l', ⟨r.l, r.at_ + 4 * n⟩) ∧ Chn gap l' ∧ l'.length = l.length + n := by
  intro n
  induction n with
  | zero =>
    intro l r h1 h2 h3 h4 h5
    refine ⟨l, loop_out ?_, h1, rfl⟩
    unfold kit_Mates_o_l1
    simp
  | succ n ih =>
    intro l r h1 h2 h3 h4 h5
    have hlast : l.length - 1 < l.length := by omega
    obtain ⟨kM, kS, _⟩ := h1 (l.length - 1) _ (List.getElem?_eq_getElem hlast)
    generalize hkk : l[l.length - 1] = k at kM kS
    have hget : geti l (w64 ((l.length : Int) - 1)) = some k := by
      rw [w64_id (by omega), show (l.length : Int) - 1 = ((l.length - 1 : Nat) : Int) by omega, geti_nat hlast, hkk]
    obtain ⟨x1, e1, a1, b1⟩ := next_ok r (k := 2001) h4 (by omega) (by decide) (by decide)
    obtain ⟨x2, e2, a2, b2⟩ := next_ok ⟨r.l, r.at_ + 1⟩ (k := 6000) (by dsimp only; omega) (by dsimp only; omega) (by decide) (by decide)
    obtain ⟨x3, e3, a3, b3⟩ := next_ok ⟨r.l, r.at_ + 1 + 1⟩ (k := 3) (by dsimp only; omega) (by dsimp only; omega) (by decide) (by decide)
    obtain ⟨x4, e4, a4, b4⟩ := next_ok ⟨r.l, r.at_ + 1 + 1 + 1⟩ (k := 9000) (by dsimp only; omega) (by dsimp only; omega) (by decide) (by decide)
    dsimp only at e1 e2 e3 e4
    obtain ⟨kM1, kM2, kM3⟩ := kM
    have t1 := stop2000 (v := x1) (by omega)
    have t2 := stopM_nonneg k.V
    obtain ⟨s, es, s1, s2, s3⟩ := l2_ok gap k ⟨kM1, kM2, kM3⟩ hg 43 (Mate.mk 0 (k.S - k.Len - gap) x1 (300 + x2) 0 (Guess.mk 0 0) false 0 (Guess.mk 0 0) 0) (by omega) (by dsimp only; omega) (by dsimp only; omega) (by dsimp only; omega) (by dsimp only; omega)
    dsimp only at es s1 s2 s3
    have m1 : 0 ≤ x3 * x4 ∧ x3 * x4 ≤ 2 * 8999 := ⟨Int.mul_nonneg a3 a4, Int.mul_le_mul (by omega) (by omega) a4 (by decide)⟩
    generalize hp : x3 * x4 = p at m1
    have sf : safeM (s - p) x1 gap ⟨k.S - k.Len, k.V⟩ = true := by
      rw [safe_lit (by omega) (by omega) (by omega) (by dsimp only; omega) kM2] at s3 ⊢
      simp only [Bool.and_eq_true, decide_eq_true_eq] at s3 ⊢
      omega
    have hc := chn_snoc (y := Mate.mk 0 (s - p) x1 (300 + x2) 0 (Guess.mk 0 0) false 0 (Guess.mk 0 0) 0) h1 ⟨⟨by dsimp only; omega, by dsimp only; omega, by dsimp only; omega⟩, by dsimp only; omega, fun _ => ⟨k, by rw [List.getElem?_eq_getElem hlast, hkk], by dsimp only; omega, sf⟩⟩
    obtain ⟨l', e', c', n'⟩ := ih _ ⟨r.l, r.at_ + 1 + 1 + 1 + 1⟩ hc (by simp) (by simp; omega) (by dsimp only; omega) (by dsimp only; omega)
    refine ⟨l', ?_, c', by rw [n']; simp; omega⟩
    rw [loop_go (s' := (l ++ [Mate.mk 0 (s - p) x1 (300 + x2) 0 (Guess.mk 0 0) false 0 (Guess.mk 0 0) 0], (n : Int), ⟨r.l, r.at_ + 1 + 1 + 1 + 1⟩)) ?_, e']
    · dsimp only
      rw [show r.at_ + 1 + 1 + 1 + 1 + 4 * (n : Int) = r.at_ + 4 * ((n + 1 : Nat) : Int) by omega]
    · unfold kit_Mates_o_l1
      rw [show decide (((n + 1 : Nat) : Int) > 0) = true from decide_eq_true (by omega)]
      dsimp only
      rw [hget, e1, cond_true, Option.bind_some, Option.bind_some]
      dsimp only
      rw [e2, Option.bind_some]
      dsimp only
      rw [w64_id (n := k.S - k.Len) (by omega), w64_id (n := k.S - k.Len - gap) (by omega), w64_id (n := 300 + x2) (by omega), es, Option.bind_some, e3, Option.bind_some]
      dsimp only
      rw [e4, Option.bind_some]
      dsimp only
      rw [hp, w64_id (n := p) (by omega), w64_id (n := s - p) (by omega), appc_ok (by simp; omega), Option.bind_some, w64_id (by omega), show ((n + 1 : Nat) : Int) - 1 = (n : Int) by omega]
theorem mates_ok (r : KitRing) {gap k : Int} (h0 : 0 ≤ r.at_) (h1 : r.at_ ≤ 1000000) (hg : 1 ≤ gap ∧ gap ≤ 3000) (hk : 1 ≤ k ∧ k ≤ 9) : ∃ l r', kit_Mates_o r gap k = some (l, r') ∧ Chn gap l ∧ (1 ≤ l.length ∧ (l.length : Int) ≤ k) ∧ r'.l = r.l ∧ r.at_ ≤ r'.at_ ∧ r'.at_ ≤ r.at_ + 100 := by
  obtain ⟨x1, e1, a1, b1⟩ := next_ok r (k := 2001) h0 (by omega) (by decide) (by decide)
  obtain ⟨x2, e2, a2, b2⟩ := next_ok ⟨r.l, r.at_ + 1⟩ (k := 6000) (by dsimp only; omega) (by dsimp only; omega) (by decide) (by decide)
  obtain ⟨x3, e3, a3, b3⟩ := next_ok ⟨r.l, r.at_ + 1 + 1⟩ (k := k) (by dsimp only; omega) (by dsimp only; omega) (by omega) (by omega)
  dsimp only at e1 e2 e3
  obtain ⟨n, rfl⟩ : ∃ n : Nat, x3 = (n : Int) := ⟨_, (Int.toNat_of_nonneg a3).symm⟩
  have hc : Chn gap [(Mate.mk 0 16777216 x1 (300 + x2) 0 (Guess.mk 0 0) false 0 (Guess.mk 0 0) 0)] := by
    intro i m hm
    have hi := get_lt hm
    simp only [List.length_cons, List.length_nil] at hi
    obtain rfl : i = 0 := by omega
    obtain rfl : _ = m := by simpa using hm
    exact ⟨⟨by dsimp only; omega, by dsimp only; omega, by dsimp only; omega⟩, by dsimp only; omega, fun h => absurd h (by omega)⟩
  obtain ⟨l', e', c', n'⟩ := mates_l1 gap hg n _ ⟨r.l, r.at_ + 1 + 1 + 1⟩ hc (by simp) (by simp; omega) (by dsimp only; omega) (by dsimp only; omega)
  simp only [List.length_cons, List.length_nil] at n'
  refine ⟨l', ⟨r.l, r.at_ + 1 + 1 + 1 + 4 * (n : Int)⟩, ?_, c', by omega, rfl, by dsimp only; omega, by dsimp only; omega⟩
  unfold kit_Mates_o
  rw [e1, Option.bind_some]
  dsimp only
  rw [e2, Option.bind_some]
  dsimp only
  rw [e3, Option.bind_some]
  dsimp only
  rw [w64_id (n := 300 + x2) (by omega), e']
  rfl
end Go.Abs.Convoy

namespace Go.Abs.Convoy
open Go Go.Abs

/-! ### New convoys -/
def G0 : Guest := Guest.mk 0 0 0 0 0 0 (Guess.mk 0 0) 0 0
def C0 : Convoy := Convoy.mk 0 0 [] G0
def newAt (l : List Mate) (i : Nat) (m : Mate) : Mate := Mate.mk ((i : Int) + 1) m.S m.V m.Len (i : Int) (match (if 0 < i then l[i - 1]? else none) with | some k => ⟨w64 (k.S - k.Len), k.V⟩ | none => ⟨0, 0⟩) true 0 ⟨0, 0⟩ 0
def newL (l : List Mate) : List Mate := l.mapIdx (newAt l)
theorem newL_len (l : List Mate) : (newL l).length = l.length := List.length_mapIdx
theorem newL_get {l : List Mate} {i : Nat} {m : Mate} (h : l[i]? = some m) : (newL l)[i]? = some (newAt l i m) := by
  unfold newL
  rw [List.getElem?_mapIdx, h]; rfl
theorem new_loop {f : Int × Convoy → Option (Stp (Int × Convoy) Convoy)} (gap : Int) (l : List Mate) (hf : ∀ (i : Nat) m (ms : List Mate), l[i]? = some m → ms.length = i → f ((i : Int), ⟨0, gap, ms, G0⟩) = some (.go (((i + 1 : Nat) : Int), ⟨0, gap, ms ++ [newAt l i m], G0⟩))) (he : ∀ c, f ((l.length : Int), c) = some (.out c)) :
    loop f (0, ⟨0, gap, [], G0⟩) = some ⟨0, gap, newL l, G0⟩ := by
  have key : ∀ (r : List Mate) (i : Nat), l.drop i = r → i ≤ l.length → loop f ((i : Int), ⟨0, gap, (newL l).take i, G0⟩) = some ⟨0, gap, newL l, G0⟩ := by
    intro r
    induction r with
    | nil =>
      intro i hi hil
      have := drop_nil hi
      obtain rfl : i = l.length := by omega
      rw [loop_out (he _), List.take_of_length_le (by rw [newL_len]; exact Nat.le_refl _)]
    | cons a r ih =>
      intro i hi _
      have hlt := drop_lt hi
      have h0 : l[i]? = some a := by have := congrArg (fun z => z[0]?) hi; simpa using this
      rw [loop_go (hf i a _ h0 (by rw [List.length_take, newL_len]; omega))]
      have := ih (i + 1) (drop_succ hi) (by omega)
      rw [List.take_add_one, newL_get h0] at this
      exact this
  exact key l 0 rfl (by omega)
def newM (gap : Int) (l : List Mate) : Convoy × Int := if chkM ⟨0, gap, newL l, G0⟩ ≠ 0 then (C0, chkM ⟨0, gap, newL l, G0⟩) else (⟨0, gap, newL l, G0⟩, 0)
theorem new_end {e : Int} {a : Convoy} : cond (e != 0) (some (C0, e)) (some (a, 0)) = some (if e ≠ 0 then (C0, e) else (a, 0)) := by
  by_cases h : e = 0
  · rw [h]; rfl
  · rw [if_pos h, show (e != 0) = true by simpa using h]; rfl
theorem prev_at {l : List Mate} (hl : l.length ≤ 1000000) {i : Nat} {m : Mate} (h : l[i]? = some m) (hi : 0 < i) : ∃ k, geti l (w64 ((i : Int) - 1)) = some k ∧ l[i - 1]? = some k := by
  have hlt := get_lt h
  have : i - 1 < l.length := by omega
  exact ⟨l[i - 1], by rw [w64_id (by omega), show (i : Int) - 1 = ((i - 1 : Nat) : Int) by omega, geti_nat this], List.getElem?_eq_getElem this⟩
theorem ref09_New_eq (gap : Int) (l : List Mate) (hl : l.length ≤ 1000000) : ref09_New gap l = some (newM gap l) := by
  unfold ref09_New
  rw [show (Convoy.mk 0 gap [] (Guest.mk 0 0 0 0 0 0 (Guess.mk 0 0) 0 0)) = ⟨0, gap, [], G0⟩ from rfl, new_loop gap l (fun i m ms h hm => by
    have hlt := get_lt h
    unfold ref09_New_l1
    rw [show decide ((i : Int) < (l.length : Int)) = true from decide_eq_true (by omega)]
    dsimp only
    rw [geti_some h]
    simp only [cond_true, Option.bind_some]
    rw [w64_id (n := (i : Int) + 1) (by omega)]
    by_cases hi : 0 < i
    · obtain ⟨k, e1, e2⟩ := prev_at hl h hi
      rw [show decide ((i : Int) > 0) = true from decide_eq_true (by omega), e1]
      simp only [cond_true, Option.bind_some, ref09_rear_eq]
      rw [appc_ok (by simp; omega), Option.bind_some]
      unfold newAt
      rw [if_pos hi, e2]; rfl
    · rw [show decide ((i : Int) > 0) = false from decide_eq_false (by omega), cond_false, Option.bind_some, appc_ok (by simp; omega), Option.bind_some]
      unfold newAt
      rw [if_neg hi]; rfl) (fun c => by unfold ref09_New_l1; simp)]
  rw [Option.bind_some, ref09_Check_eq _ (by rw [newL_len]; exact hl), Option.bind_some]
  exact new_end
def takenP (g : Guest) (m : Mate) : Bool := m.ID == g.ID || (m.Ward == g.ID && g.ID != 0)
def withG (c : Convoy) (g : Guest) : Convoy := ⟨c.Tick, c.Gap, c.Mates, Guest.mk g.ID g.S g.V g.Len g.End 0 (Guess.mk 0 0) 0 0⟩
def rampM (c : Convoy) (g : Guest) : Convoy × Int :=
  if chkM c ≠ 0 then (C0, chkM c) else if (c.Guest_.ID != 0) || c.Mates.any (takenP g) then (C0, 9) else if g.ID = 0 then (C0, 2) else if chkM (withG c g) ≠ 0 then (C0, chkM (withG c g)) else (withG c g, 0)
theorem ref09_Copy_eq (c : Convoy) (hl : c.Mates.length ≤ 1000000) : ref09_Copy c = some c := by
  unfold ref09_Copy
  rw [appc_ok (by simp; omega)]; rfl
theorem ramp_l1 (c : Convoy) (g : Guest) (hl : c.Mates.length ≤ 1000000) : ∀ (r : List Mate) (i : Nat) (b : Bool), c.Mates.drop i = r → loop (ref09_Ramp_l1 c g) (b, (i : Int)) = some (b || r.any (takenP g)) := by
  intro r
  induction r with
  | nil =>
    intro i b hi
    have := drop_nil hi
    refine loop_out ?_
    unfold ref09_Ramp_l1
    rw [show decide ((i : Int) < (c.Mates.length : Int)) = false from decide_eq_false (by omega)]; simp
  | cons a r ih =>
    intro i b hi
    have hlt := drop_lt hi
    have hs : ref09_Ramp_l1 c g (b, (i : Int)) = some (.go (b || takenP g a, ((i + 1 : Nat) : Int))) := by
      unfold ref09_Ramp_l1
      rw [show decide ((i : Int) < (c.Mates.length : Int)) = true from decide_eq_true (by omega)]
      dsimp only
      rw [geti_drop hi, w64_id (by omega)]
      simp only [cond_true, cond_some, Option.bind_some]
      unfold takenP
      cases b
      · simp only [Bool.not_false, cond_true, Bool.false_or]
        cases (a.ID == g.ID)
        · rfl
        · rfl
      · rfl
    rw [loop_go hs, ih (i + 1) _ (drop_succ hi), List.any_cons, Bool.or_assoc]
theorem ref09_Ramp_eq (c : Convoy) (g : Guest) (hl : c.Mates.length ≤ 1000000) : ref09_Ramp c g = some (rampM c g) := by
  unfold ref09_Ramp rampM
  rw [ref09_Check_eq c hl, Option.bind_some]
  by_cases h1 : chkM c = 0
  · rw [h1, if_neg (by decide), show ((0 : Int) != 0) = false from rfl, cond_false]
    have := ramp_l1 c g hl c.Mates 0 (c.Guest_.ID != 0) rfl
    rw [show ((0 : Nat) : Int) = 0 from rfl] at this
    rw [this, Option.bind_some]
    cases ((c.Guest_.ID != 0) || c.Mates.any (takenP g))
    · simp only [cond_false, Bool.false_eq_true, if_false]
      by_cases h2 : g.ID = 0
      · rw [if_pos h2, show (g.ID == 0) = true by simpa using h2]; rfl
      · rw [if_neg h2, show (g.ID == 0) = false by simpa using h2, cond_false, ref09_Copy_eq c hl, Option.bind_some]
        rw [show (Convoy.mk c.Tick c.Gap c.Mates (Guest.mk g.ID g.S g.V g.Len g.End 0 (Guess.mk 0 0) 0 0)) = withG c g from rfl, ref09_Check_eq (withG c g) hl, Option.bind_some]
        exact new_end
    · rfl
  · rw [if_pos h1, show (chkM c != 0) = true by simpa using h1]; rfl
theorem rampM_len (c : Convoy) (g : Guest) (h : (rampM c g).2 = 0) : rampM c g = (withG c g, 0) := by
  unfold rampM at *
  split at h
  · rename_i q; exact absurd h q
  · rename_i q
    split at h
    · exact absurd h (by decide)
    · split at h
      · exact absurd h (by decide)
      · split at h
        · rename_i q3; exact absurd h q3
        · rename_i q1 q2 q3
          rw [if_neg q, if_neg q1, if_neg q2, if_neg q3]
end Go.Abs.Convoy

namespace Go.Abs.Convoy
open Go Go.Abs

theorem anyI_false {α : Type} {P : Nat → α → Bool} : ∀ {l : List α} {i : Nat}, (∀ (j : Nat) m, l[j]? = some m → P (i + j) m = false) → anyI P i l = false
  | [], _, _ => rfl
  | a :: r, i, h => by
    rw [anyI, show P i a = false from h 0 a rfl, Bool.false_or]
    refine anyI_false fun j m hm => ?_
    have := h (j + 1) m (by simpa using hm)
    rwa [show i + 1 + j = i + (j + 1) by omega]
theorem newL_of {l : List Mate} {i : Nat} {m : Mate} (h : (newL l)[i]? = some m) : ∃ k, l[i]? = some k ∧ m = newAt l i k := by
  have hlt := get_lt h
  rw [newL_len] at hlt
  have := newL_get (List.getElem?_eq_getElem hlt)
  rw [h] at this
  exact ⟨_, List.getElem?_eq_getElem hlt, Option.some.inj this⟩
theorem within_of {n a b : Int} (h1 : a ≤ n) (h2 : n ≤ b) : within n a b = true := by simp [within, h1, h2]
theorem within_iff {n a b : Int} : within n a b = true ↔ a ≤ n ∧ n ≤ b := by simp [within]
/-- A new convoy of the kit's mates. -/
def base (gap : Int) (l : List Mate) : Convoy := ⟨0, gap, newL l, G0⟩
/-- What is true of a mate of a new convoy. -/
structure NewAt (gap : Int) (l : List Mate) (i : Nat) (m : Mate) : Prop where
  id : m.ID = (i : Int) + 1
  ahead : m.Ahead = (i : Int)
  ward : m.Ward = 0
  untl : m.Until = 0
  wg : m.WardGuess = ⟨0, 0⟩
  trust : m.Trust = true
  kit : KitM m
  zero : i = 0 → m.Guess_ = ⟨0, 0⟩
  pred : 0 < i → ∃ k, (newL l)[i - 1]? = some k ∧ k.ID = (i : Int) ∧ m.Guess_ = ⟨k.S - k.Len, k.V⟩ ∧ m.S ≤ k.S - k.Len - gap ∧ safeM m.S m.V gap m.Guess_ = true ∧ KitM k
theorem new_at {gap : Int} {l : List Mate} (hc : Chn gap l) {i : Nat} {m : Mate} (h : (newL l)[i]? = some m) : NewAt gap l i m := by
  obtain ⟨k, hk, rfl⟩ := newL_of h
  obtain ⟨a, b, c⟩ := hc i k hk
  refine ⟨rfl, rfl, rfl, rfl, rfl, rfl, a, ?_, ?_⟩
  · rintro rfl; rfl
  · intro hi
    obtain ⟨p, e, d, s⟩ := c hi
    have ap := (hc _ _ e).1
    have eg : (newAt l i k).Guess_ = ⟨p.S - p.Len, p.V⟩ := by
      unfold newAt
      rw [if_pos hi, e]
      dsimp only
      rw [w64_id (by obtain ⟨x, y, z⟩ := ap; omega)]
    refine ⟨newAt l (i - 1) p, newL_get e, by unfold newAt; dsimp only; omega, eg, d, ?_, ap⟩
    rw [eg]; exact s
theorem base_ok {gap : Int} {l : List Mate} (hc : Chn gap l) (hg : 1 ≤ gap ∧ gap ≤ 3000) (h1 : 1 ≤ l.length) (h2 : l.length ≤ 8) : chkM (base gap l) = 0 := by
  have n0 : numM (base gap l) = 0 := by
    unfold numM base
    dsimp only
    rw [show within 0 0 1099511627776 = true from rfl, within_of hg.1 (show gap ≤ 20000 by omega), newL_len, if_neg (by decide), if_neg (by omega), show noGuest G0 = true from rfl, if_pos rfl, if_neg (by omega)]
    rw [show ((newL l).any fun m => !mateM m) = false from ?_]
    · rfl
    · rw [List.any_eq_false]
      intro m hm
      obtain ⟨i, hi⟩ := List.mem_iff_getElem?.1 hm
      have hlt := get_lt hi
      rw [newL_len] at hlt
      have N := new_at hc hi
      obtain ⟨kS, kV, kL⟩ := N.kit
      have gM : guessM m.Guess_ = true := by
        rcases Nat.eq_zero_or_pos i with z | z
        · rw [N.zero z]; rfl
        · obtain ⟨k, _, _, e, _, _, q1, q2, q3⟩ := N.pred z
          rw [e]
          simp only [guessM, Bool.and_eq_true, within_iff]
          omega
      have : mateM m = true := by
        unfold mateM bodyM
        rw [N.id, N.ahead, N.ward, N.untl, N.wg, gM, show guessM ⟨0, 0⟩ = true from rfl]
        simp only [Bool.and_eq_true, within_iff, and_true]
        omega
      simp [this]
  have d0 : anyI (dupP (base gap l)) 0 (base gap l).Mates = false := by
    refine anyI_false fun j m hm => ?_
    have N := new_at hc hm
    unfold dupP
    rw [Nat.zero_add, Bool.or_eq_false_iff, List.any_eq_false]
    refine ⟨fun x hx => ?_, ?_⟩
    · obtain ⟨q, hq⟩ := List.mem_iff_getElem?.1 hx
      have q1 := get_lt hq
      rw [List.length_take] at q1
      rw [List.getElem?_take, if_pos (by omega)] at hq
      have N2 := new_at hc hq
      rw [N.id, N2.id]
      simp only [beq_iff_eq]; omega
    · rw [N.id]
      simp only [base, G0, beq_eq_false_iff_ne, ne_eq]; omega
  have o0 : anyI (ordP (base gap l)) 0 (base gap l).Mates = false := by
    refine anyI_false fun j m hm => ?_
    have N := new_at hc hm
    unfold ordP
    rw [Nat.zero_add]
    by_cases z : 0 < j
    · obtain ⟨k, e, _, _, q, _, q1, q2, q3⟩ := N.pred z
      rw [show (base gap l).Mates[j - 1]? = some k from e, show decide (0 < j) = true from decide_eq_true z, Bool.true_and]
      dsimp only
      rw [w64_id (by omega)]
      exact decide_eq_false (by omega)
    · rw [show decide (0 < j) = false from decide_eq_false z]; rfl
  have s0 : anyI staP 0 (base gap l).Mates = false := by
    refine anyI_false fun j m hm => ?_
    have N := new_at hc hm
    unfold staP
    rw [N.ahead, N.ward, N.untl, Nat.zero_add]
    cases j with
    | zero => rfl
    | succ j =>
      rw [show (((j + 1 : Nat) : Int) == 0) = false by simp only [beq_eq_false_iff_ne]; omega]
      simp
  have c0 : (base gap l).Mates.any (clashP (base gap l)) = false := by
    rw [List.any_eq_false]
    intro m hm
    obtain ⟨i, hi⟩ := List.mem_iff_getElem?.1 hm
    have N := new_at hc hi
    unfold clashP keepM
    rw [N.ahead, N.untl]
    rcases Nat.eq_zero_or_pos i with z | z
    · rw [z]; simp
    · obtain ⟨k, _, _, _, _, s, _⟩ := N.pred z
      rw [show (base gap l).Gap = gap from rfl, s]
      simp
  unfold chkM ordM
  rw [n0, d0, o0, s0, c0]
  rfl

/-- What the kit's convoys are. -/
structure KitC (b : Bool) (c : Convoy) : Prop where
  chk : chkM c = 0
  is : ∃ gap l, (1 ≤ gap ∧ gap ≤ 3000) ∧ Chn gap l ∧ (1 ≤ l.length ∧ l.length ≤ 5) ∧ (c = base gap l ∨ b = true ∧ ∃ g : Guest, (70 ≤ g.ID ∧ g.ID ≤ 89) ∧ g.S ≤ 16900000 ∧ (0 ≤ g.V ∧ g.V ≤ 2000) ∧ (300 ≤ g.Len ∧ g.Len ≤ 6299) ∧ c = withG (base gap l) g)
theorem KitC.len {b : Bool} {c : Convoy} (h : KitC b c) : c.Mates.length ≤ 5 := by
  obtain ⟨_, _, _, _, ⟨_, n⟩, e | ⟨_, _, _, _, _, _, e⟩⟩ := h.is
  · rw [e]; show (newL _).length ≤ 5; rw [newL_len]; exact n
  · rw [e]; show (newL _).length ≤ 5; rw [newL_len]; exact n
theorem kit_convoy (r : KitRing) (b : Bool) (h0 : 0 ≤ r.at_) (h1 : r.at_ ≤ 1000) : ∃ c r', kit_Convoy_o r b = some (c, r') ∧ KitC b c ∧ r'.l = r.l ∧ r.at_ ≤ r'.at_ ∧ r'.at_ ≤ r.at_ + 200 := by
  obtain ⟨x1, e1, a1, b1⟩ := next_ok r (k := 3000) h0 (by omega) (by decide) (by decide)
  obtain ⟨l, r2, e2, hc, hl, q1, q2, q3⟩ := mates_ok ⟨r.l, r.at_ + 1⟩ (gap := 1 + x1) (k := 5) (by dsimp only; omega) (by dsimp only; omega) (by omega) (by decide)
  dsimp only at q1 q2 q3
  have hn : newM (1 + x1) l = (base (1 + x1) l, 0) := by
    unfold newM
    have := base_ok hc (by omega) hl.1 (by omega)
    unfold base at this
    rw [if_neg (by rw [this]; decide)]; rfl
  unfold kit_Convoy_o
  rw [e1, Option.bind_some]
  dsimp only
  rw [w64_id (n := 1 + x1) (by omega), e2, Option.bind_some]
  dsimp only
  rw [ref09_New_eq _ _ (by omega), Option.bind_some, hn]
  have K0 : KitC b (base (1 + x1) l) := ⟨base_ok hc (by omega) hl.1 (by omega), _, _, by omega, hc, by omega, .inl rfl⟩
  cases b
  · exact ⟨_, _, rfl, K0, q1, by omega, by omega⟩
  · have hlen : (base (1 + x1) l).Mates.length = l.length := newL_len l
    obtain ⟨x4, e4, a4, b4⟩ := next_ok r2 (k := (l.length : Int)) (by omega) (by omega) (by omega) (by omega)
    obtain ⟨x6, e6, a6, b6⟩ := next_ok ⟨r2.l, r2.at_ + 1⟩ (k := 20) (by dsimp only; omega) (by dsimp only; omega) (by decide) (by decide)
    obtain ⟨x7, e7, a7, b7⟩ := next_ok ⟨r2.l, r2.at_ + 1 + 1⟩ (k := 20000) (by dsimp only; omega) (by dsimp only; omega) (by decide) (by decide)
    obtain ⟨x8, e8, a8, b8⟩ := next_ok ⟨r2.l, r2.at_ + 1 + 1 + 1⟩ (k := 2001) (by dsimp only; omega) (by dsimp only; omega) (by decide) (by decide)
    obtain ⟨x9, e9, a9, b9⟩ := next_ok ⟨r2.l, r2.at_ + 1 + 1 + 1 + 1⟩ (k := 6000) (by dsimp only; omega) (by dsimp only; omega) (by decide) (by decide)
    obtain ⟨x10, e10, a10, b10⟩ := next_ok ⟨r2.l, r2.at_ + 1 + 1 + 1 + 1 + 1⟩ (k := 60000) (by dsimp only; omega) (by dsimp only; omega) (by decide) (by decide)
    dsimp only at e6 e7 e8 e9 e10
    obtain ⟨j, rfl⟩ : ∃ j : Nat, x4 = (j : Int) := ⟨_, (Int.toNat_of_nonneg a4).symm⟩
    simp only [bne_self_eq_false, Bool.not_true, cond_false]
    rw [hlen, e4, Option.bind_some]
    dsimp only
    rw [geti_nat (show j < (base (1 + x1) l).Mates.length by omega), Option.bind_some, e6, Option.bind_some]
    dsimp only
    rw [e7, Option.bind_some]
    dsimp only
    rw [e8, Option.bind_some]
    dsimp only
    rw [e9, Option.bind_some]
    dsimp only
    rw [e10, Option.bind_some]
    dsimp only
    rw [ref09_Ramp_eq _ _ (by omega), Option.bind_some]
    generalize hg : (Guest.mk (w64 (70 + x6)) _ x8 _ _ _ _ _ _) = g
    have g1 : g.ID = 70 + x6 := by rw [← hg]; exact w64_id (by omega)
    have g2 : g.V = x8 := by rw [← hg]
    have g3 : g.Len = 300 + x9 := by rw [← hg]; exact w64_id (by omega)
    have g4 : g.S ≤ 16900000 := by
      have hj : j < (base (1 + x1) l).Mates.length := by omega
      obtain ⟨m1, m2, m3⟩ := (new_at hc (List.getElem?_eq_getElem (l := (base (1 + x1) l).Mates) hj)).kit
      rw [← hg]
      dsimp only
      generalize (base (1 + x1) l).Mates[j] = m at m1 m2 m3
      rw [w64_id (n := m.S - m.Len) (by omega), w64_id (n := m.S - m.Len - x7) (by omega), w64_id (by omega)]
      omega
    by_cases h : (rampM (base (1 + x1) l) g).2 = 0
    · have e := rampM_len _ _ h
      rw [e]
      refine ⟨_, _, rfl, ⟨?_, _, _, by omega, hc, by omega, .inr ⟨rfl, g, by omega, g4, by omega, by omega, rfl⟩⟩, q1, by dsimp only; omega, by dsimp only; omega⟩
      unfold rampM at e
      split at e
      · exact absurd (congrArg (fun z => z.1.Mates.length) e) (by show ¬ 0 = (newL l).length; rw [newL_len]; omega)
      · split at e
        · exact absurd (congrArg (fun z => z.2) e) (by simp)
        · split at e
          · exact absurd (congrArg (fun z => z.2) e) (by simp)
          · split at e
            · exact absurd (congrArg (fun z => z.1.Mates.length) e) (by show ¬ 0 = (newL l).length; rw [newL_len]; omega)
            · rename_i q; simpa using q
    · rw [show ((rampM (base (1 + x1) l) g).2 != 0) = true by simpa using h]
      exact ⟨_, _, rfl, K0, q1, by dsimp only; omega, by dsimp only; omega⟩
end Go.Abs.Convoy

namespace Go.Abs.Convoy
open Go Go.Abs

/-! ### What a check says -/
theorem chk_num {c : Convoy} (h : chkM c = 0) : numM c = 0 := by
  unfold chkM at h
  split at h
  · rename_i q; exact absurd h q
  · rename_i q; simpa using q
theorem num_parts {c : Convoy} (h : numM c = 0) : (within c.Tick 0 1099511627776 = true ∧ within c.Gap 1 20000 = true) ∧ c.Mates.length ≠ 0 ∧ ¬ c.Mates.length + (if noGuest c.Guest_ then 0 else 1) > 8 ∧ (c.Mates.any fun m => !mateM m) = false ∧ (noGuest c.Guest_ || guestM c.Guest_) = true := by
  unfold numM at h
  by_cases h1 : (!within c.Tick 0 1099511627776 || !within c.Gap 1 20000) = true
  · rw [if_pos h1] at h; exact absurd h (by decide)
  rw [if_neg h1] at h
  by_cases h2 : c.Mates.length = 0
  · rw [if_pos h2] at h; exact absurd h (by decide)
  rw [if_neg h2] at h
  by_cases h3 : c.Mates.length + (if noGuest c.Guest_ then 0 else 1) > 8
  · rw [if_pos h3] at h; exact absurd h (by decide)
  rw [if_neg h3] at h
  by_cases h4 : ((c.Mates.any fun m => !mateM m) || !(noGuest c.Guest_ || guestM c.Guest_)) = true
  · rw [if_pos h4] at h; exact absurd h (by decide)
  rw [Bool.not_eq_true, Bool.or_eq_false_iff] at h1 h4
  exact ⟨by simpa using h1, h2, h3, h4.1, by have := h4.2; rwa [Bool.not_eq_false'] at this⟩
theorem num_len {c : Convoy} (h : numM c = 0) : 1 ≤ c.Mates.length ∧ c.Mates.length ≤ 8 := by
  have p := num_parts h
  have p1 := p.2.1
  have p2 := p.2.2.1
  omega
theorem num_mate {c : Convoy} (h : numM c = 0) {m : Mate} (hm : m ∈ c.Mates) : mateM m = true := by
  have p := (num_parts h).2.2.2.1
  rw [List.any_eq_false] at p
  simpa using p m hm
/-- The numbers of a mate. -/
structure MateB (m : Mate) : Prop where
  id : 1 ≤ m.ID ∧ m.ID ≤ 99
  s : 0 ≤ m.S ∧ m.S ≤ 1099511627776
  v : 0 ≤ m.V ∧ m.V ≤ 2000
  len : 300 ≤ m.Len ∧ m.Len ≤ 20000
  ahead : 0 ≤ m.Ahead ∧ m.Ahead ≤ 99
  ward : 0 ≤ m.Ward ∧ m.Ward ≤ 99
  untl : 0 ≤ m.Until ∧ m.Until ≤ 2199023255552
  guess : guessM m.Guess_ = true
  wguess : guessM m.WardGuess = true
theorem mateB_iff {m : Mate} : mateM m = true ↔ MateB m := by
  unfold mateM bodyM
  simp only [Bool.and_eq_true, within_iff]
  constructor
  · rintro ⟨⟨a, b, c, d⟩, e, f, g, h, i⟩; exact ⟨a, b, c, d, e, f, g, h, i⟩
  · rintro ⟨a, b, c, d, e, f, g, h, i⟩; exact ⟨⟨a, b, c, d⟩, e, f, g, h, i⟩
theorem chk_mate {c : Convoy} (h : chkM c = 0) {i : Nat} {m : Mate} (hm : c.Mates[i]? = some m) : MateB m := mateB_iff.1 (num_mate (chk_num h) (List.mem_of_getElem? hm))
theorem convoy_find_eq (l : List Mate) (id : Int) (hl : l.length ≤ 1000000) : convoy_find l id = some (idxI (fun m => m.ID == id) l) := by
  unfold convoy_find slices_IndexFunc_Mate_Mate_convoy_find_1b
  rw [index_eq l (fun m => m.ID == id) (by omega) (fun i a h => by
    have := get_lt h
    unfold slices_IndexFunc_Mate_Mate_convoy_find_1b_l1 convoy_find_1_b
    rw [show decide ((i : Int) < (l.length : Int)) = true from decide_eq_true (by omega), geti_some h]
    simp only [cond_true, Option.bind_some]
    cases (a.ID == id) <;> rfl) (by
    unfold slices_IndexFunc_Mate_Mate_convoy_find_1b_l1
    simp), Option.bind_some]
theorem idxI_lt {α : Type} (P : α → Bool) (l : List α) : idxI P l = -1 ∨ ∃ i : Nat, i < l.length ∧ idxI P l = (i : Int) := by
  unfold idxI
  cases h : l.findIdx? P with
  | none => exact .inl rfl
  | some i => exact .inr ⟨i, (List.findIdx?_eq_some_iff_getElem.1 h).1, rfl⟩

/-! ### Who is beside the guest -/
def besP (c : Convoy) (m : Mate) : Bool := decide (m.S ≤ c.Guest_.S)
def besM (c : Convoy) : Int × Int := match c.Mates.findIdx? (besP c) with | some i => ((i : Int) - 1, (i : Int)) | none => ((c.Mates.length : Int) - 1, -1)
theorem convoy_beside_eq (c : Convoy) (hl : c.Mates.length ≤ 1000000) : convoy_beside c = some (besM c) := by
  unfold convoy_beside slices_IndexFunc_Mate_Mate_convoy_beside_1b
  rw [index_eq c.Mates (besP c) (by omega) (fun i a h => by
    have := get_lt h
    unfold slices_IndexFunc_Mate_Mate_convoy_beside_1b_l1 convoy_beside_1_b
    rw [show decide ((i : Int) < (c.Mates.length : Int)) = true from decide_eq_true (by omega), geti_some h]
    simp only [cond_true, Option.bind_some]
    unfold besP
    cases decide (a.S ≤ c.Guest_.S) <;> rfl) (by
    unfold slices_IndexFunc_Mate_Mate_convoy_beside_1b_l1
    simp), Option.bind_some]
  unfold besM idxI
  cases h : c.Mates.findIdx? (besP c) with
  | none => dsimp only; rw [w64_id (by omega)]; rfl
  | some i =>
    have := (List.findIdx?_eq_some_iff_getElem.1 h).1
    dsimp only
    rw [show decide ((i : Int) < 0) = false from decide_eq_false (by omega), cond_false, w64_id (by omega)]
theorem besM_lt (c : Convoy) : (besM c).1 < (c.Mates.length : Int) ∧ -1 ≤ (besM c).1 ∧ ((besM c).2 = -1 ∨ ∃ j : Nat, j < c.Mates.length ∧ (besM c).2 = (j : Int)) := by
  unfold besM
  cases h : c.Mates.findIdx? (besP c) with
  | none => dsimp only; omega
  | some i =>
    have := (List.findIdx?_eq_some_iff_getElem.1 h).1
    dsimp only
    exact ⟨by omega, by omega, .inr ⟨i, this, rfl⟩⟩

/-! ### Sights -/
def noiseM (l : List Int) (i : Nat) (k : Int) : Int := match l[i]? with | some n => n % k | none => 0
theorem noise_eq (l : List Int) (i : Nat) {k : Int} (hk : 0 < k) (hk2 : k ≤ 1000) : convoy_Look_1_b (i : Int) k l = some (noiseM l i k) := by
  unfold convoy_Look_1_b noiseM
  cases h : l[i]? with
  | none =>
    have := List.getElem?_eq_none_iff.1 h
    rw [show decide ((i : Int) ≥ (l.length : Int)) = true from decide_eq_true (by omega)]; rfl
  | some n =>
    have hlt := get_lt h
    rw [show decide ((i : Int) ≥ (l.length : Int)) = false from decide_eq_false (by omega), cond_false, geti_some h, Option.bind_some]
    unfold remc
    have b1 := Int.tmod_lt_of_pos n hk
    have b2 := Int.lt_tmod_of_pos n hk
    have b3 := Int.emod_nonneg (n.tmod k + k) (show k ≠ 0 by omega)
    rw [if_neg (by omega), Option.bind_some, w64_id (by omega), if_neg (by omega), Option.bind_some, Int.tmod_eq_emod_of_nonneg (by omega), Int.add_emod_right]
    congr 1
    rw [Int.tmod_eq_emod]
    split
    · simp
    · rw [show ((k.natAbs : Nat) : Int) = k by omega, Int.sub_emod_right, Int.emod_emod]
def lookM (c : Convoy) (id : Int) (l : List Int) : Sight × Int :=
  if chkM c ≠ 0 then (⟨0, 0, 0, 0, 0⟩, chkM c)
  else match (if (id != 0 && id == c.Guest_.ID) then (besM c).1 else idxI (fun m => m.ID == id) c.Mates - 1) with
    | .negSucc _ => (⟨0, 0, 0, 0, 0⟩, 7)
    | .ofNat a => match c.Mates[a]? with
      | none => (⟨0, 0, 0, 0, 0⟩, 7)
      | some m => (⟨id, m.S - m.Len - noiseM l 0 101, m.S - m.Len + noiseM l 1 101, max 0 (m.V - noiseM l 2 6), min 2000 (m.V + noiseM l 3 6)⟩, 0)
theorem noise_bd (l : List Int) (i : Nat) {k : Int} (hk : 0 < k) : 0 ≤ noiseM l i k ∧ noiseM l i k < k := by
  unfold noiseM
  cases l[i]? with
  | none => exact ⟨Int.le_refl _, hk⟩
  | some n => exact ⟨Int.emod_nonneg _ (by omega), Int.emod_lt_of_pos _ hk⟩
theorem at_lt (c : Convoy) (id : Int) : ((if (id != 0 && id == c.Guest_.ID) then (besM c).1 else idxI (fun m => m.ID == id) c.Mates - 1)) < (c.Mates.length : Int) ∧ -2 ≤ ((if (id != 0 && id == c.Guest_.ID) then (besM c).1 else idxI (fun m => m.ID == id) c.Mates - 1)) := by
  split
  · have := besM_lt c; omega
  · rcases idxI_lt (fun m : Mate => m.ID == id) c.Mates with e | ⟨i, hi, e⟩ <;> rw [e] <;> omega
theorem convoy_Look_eq (c : Convoy) (id : Int) (l : List Int) (hl : c.Mates.length ≤ 1000000) : convoy_Look c id l = some (lookM c id l) := by
  unfold convoy_Look lookM
  rw [convoy_Check_eq c hl, Option.bind_some]
  by_cases h : chkM c = 0
  · rw [if_neg (by rw [h]; decide), h, show ((0 : Int) != 0) = false from rfl, cond_false, convoy_find_eq _ _ hl, Option.bind_some, convoy_beside_eq c hl]
    have e : (cond ((id != 0) && (id == c.Guest_.ID)) ((some (besM c)).bind fun v3 => some v3.1) (some (w64 (idxI (fun m : Mate => m.ID == id) c.Mates - 1)))) = some (if (id != 0 && id == c.Guest_.ID) then (besM c).1 else idxI (fun m => m.ID == id) c.Mates - 1) := by
      cases ((id != 0) && (id == c.Guest_.ID))
      · rw [cond_false, w64_id (by rcases idxI_lt (fun m : Mate => m.ID == id) c.Mates with e | ⟨i, hi, e⟩ <;> rw [e] <;> omega)]; rfl
      · rfl
    rw [e, Option.bind_some]
    have b := at_lt c id
    generalize (if (id != 0 && id == c.Guest_.ID) then (besM c).1 else idxI (fun m => m.ID == id) c.Mates - 1) = a at b
    cases a with
    | negSucc n => rw [show decide (Int.negSucc n < 0) = true from decide_eq_true (by omega)]; rfl
    | ofNat n =>
      have hn : n < c.Mates.length := by have := b.1; rw [Int.ofNat_eq_natCast] at this; omega
      rw [Int.ofNat_eq_natCast, show decide ((n : Int) < 0) = false from decide_eq_false (by omega), cond_false, geti_nat hn, Option.bind_some]
      dsimp only
      rw [List.getElem?_eq_getElem hn]
      dsimp only
      have B := chk_mate h (List.getElem?_eq_getElem hn)
      generalize c.Mates[n] = m at B
      have s1 := B.s
      have s2 := B.v
      have s3 := B.len
      have n0 := noise_eq l 0 (k := 101) (by decide) (by decide)
      have n1 := noise_eq l 1 (k := 101) (by decide) (by decide)
      have n2 := noise_eq l 2 (k := 6) (by decide) (by decide)
      have n3 := noise_eq l 3 (k := 6) (by decide) (by decide)
      rw [show ((0 : Nat) : Int) = 0 from rfl] at n0
      rw [show ((1 : Nat) : Int) = 1 from rfl] at n1
      rw [show ((2 : Nat) : Int) = 2 from rfl] at n2
      rw [show ((3 : Nat) : Int) = 3 from rfl] at n3
      have m0 := noise_bd l 0 (k := 101) (by decide)
      have m1 := noise_bd l 1 (k := 101) (by decide)
      have m2 := noise_bd l 2 (k := 6) (by decide)
      have m3 := noise_bd l 3 (k := 6) (by decide)
      rw [n0, n1, n2, n3]
      simp only [convoy_rear_eq, Option.bind_some]
      rw [w64_id (n := m.S - m.Len) (by omega), w64_id (by omega), w64_id (by omega), w64_id (by omega), w64_id (by omega), mm2_max, mm2_min]
  · rw [if_pos h, show (chkM c != 0) = true by simpa using h]; rfl
end Go.Abs.Convoy

namespace Go.Abs.Convoy
open Go Go.Abs

/-! ### What is believed in a convoy -/
def idP (id : Int) (m : Mate) : Bool := m.ID == id
def holdL (c : Convoy) (i : Nat) (id : Int) (g : Guess) : Bool := match c.Mates.findIdx? (idP id) with
  | some k => decide (k < i) && (match c.Mates[k]? with | some m => belowM g (w64 (m.S - m.Len)) m.V | none => false)
  | none => false
def foundL (c : Convoy) (i : Nat) (id : Int) : Bool := match c.Mates.findIdx? (idP id) with | some k => decide (k < i) | none => false
def prevL (c : Convoy) (i : Nat) : Option Mate := if 0 < i then c.Mates[i - 1]? else none
def bad4 (c : Convoy) (i : Nat) (m : Mate) : Bool := match prevL c i with | some k => k.ID != m.Ahead && (m.Until == 0 || k.ID != m.Ward) | none => false
def bad1 (c : Convoy) (i : Nat) (m : Mate) : Bool := (m.Ahead != 0) && !holdL c i m.Ahead m.Guess_
def bad2 (c : Convoy) (i : Nat) (m : Mate) : Bool := ((m.Until != 0) && foundL c i m.Ward) && !holdL c i m.Ward m.WardGuess
def bad3 (c : Convoy) (_ : Nat) (m : Mate) : Bool := ((m.Until != 0) && (m.Ward == c.Guest_.ID)) && !belowM m.WardGuess (w64 (c.Guest_.S - c.Guest_.Len)) c.Guest_.V
def badM (c : Convoy) (i : Nat) (m : Mate) : Bool := bad1 c i m || (bad2 c i m || (bad3 c i m || bad4 c i m))
def soundM (c : Convoy) : Bool := chkM c == 0 && (!anyI (badM c) 0 c.Mates && (c.Guest_.Ahead == 0 || holdL c c.Mates.length c.Guest_.Ahead c.Guest_.Guess_))
theorem find_get {l : List Mate} {id : Int} {k : Nat} (h : l.findIdx? (idP id) = some k) : ∃ m, l[k]? = some m ∧ m.ID = id := by
  obtain ⟨q, e, _⟩ := List.findIdx?_eq_some_iff_getElem.1 h
  exact ⟨l[k], List.getElem?_eq_getElem q, by simpa [idP] using e⟩
theorem idx_take (c : Convoy) (i : Nat) (id : Int) : idxI (fun m => m.ID == id) (c.Mates.take i) = match c.Mates.findIdx? (idP id) with | some k => if k < i then (k : Int) else -1 | none => -1 := by
  unfold idxI
  rw [show (fun m : Mate => m.ID == id) = idP id from rfl, List.findIdx?_take]
  cases c.Mates.findIdx? (idP id) with
  | none => rfl
  | some k =>
    simp only [Option.bind_some, Option.guard]
    by_cases h : k < i
    · simp [h]
    · simp [h]
theorem find_take (c : Convoy) (hl : c.Mates.length ≤ 1000000) (i : Nat) (id : Int) : ∃ v, convoy_find (c.Mates.take i) id = some v ∧ decide (v ≥ 0) = foundL c i id := by
  refine ⟨_, convoy_find_eq _ id (by rw [List.length_take]; omega), ?_⟩
  rw [idx_take]
  unfold foundL
  cases c.Mates.findIdx? (idP id) with
  | none => rfl
  | some k =>
    dsimp only
    by_cases h : k < i
    · simp [h]
    · simp [h]
theorem holds_take (c : Convoy) (hl : c.Mates.length ≤ 1000000) (i : Nat) (id : Int) (g : Guess) : convoy_holds (c.Mates.take i) id g = some (holdL c i id g) := by
  unfold convoy_holds
  rw [convoy_find_eq _ id (by rw [List.length_take]; omega), Option.bind_some]
  have hv := idx_take c i id
  generalize idxI (fun m : Mate => m.ID == id) (c.Mates.take i) = v at hv
  unfold holdL
  cases hk : c.Mates.findIdx? (idP id) with
  | none => rw [hk] at hv; subst hv; rfl
  | some k =>
    obtain ⟨m, hm, _⟩ := find_get hk
    rw [hk] at hv
    dsimp only at hv ⊢
    by_cases h : k < i
    · have e : geti (c.Mates.take i) (k : Int) = some m := geti_some (by rw [List.getElem?_take, if_pos h]; exact hm)
      rw [if_pos h] at hv
      subst hv
      rw [show decide ((k : Int) ≥ 0) = true from decide_eq_true (by omega), e, decide_eq_true h, hm]
      simp only [cond_true, Option.bind_some, convoy_rear_eq, convoy_Below_eq, Bool.true_and]
    · rw [if_neg h] at hv
      subst hv
      rw [decide_eq_false h]; rfl
theorem subl_take {α : Type} (l : List α) {i : Nat} (h : i ≤ l.length) : subl l 0 (i : Int) = some (l.take i) := by
  unfold subl
  rw [if_pos (by omega)]
  simp
theorem sound_l1 (c : Convoy) (hl : c.Mates.length ≤ 1000000) (i : Nat) (m : Mate) (h : c.Mates[i]? = some m) : convoy_Sound_l1 c (i : Int) = some (if badM c i m then .out (.inr false) else .go (w64 ((i : Int) + 1))) := by
  have hlt := get_lt h
  obtain ⟨v, ev, fv⟩ := find_take c hl i m.Ward
  unfold convoy_Sound_l1
  rw [show decide ((i : Int) < (c.Mates.length : Int)) = true from decide_eq_true (by omega), cond_true, geti_some h, Option.bind_some, subl_take _ (by omega)]
  simp only [cond_some, Option.bind_some]
  have e1 : (cond (m.Ahead != 0) (convoy_holds (cond (m.Ahead != 0) (c.Mates.take i) default) m.Ahead m.Guess_) (some default)) = some (cond (m.Ahead != 0) (holdL c i m.Ahead m.Guess_) default) := by
    cases (m.Ahead != 0)
    · rfl
    · exact holds_take c hl i _ _
  have e2 : (cond (m.Until != 0) (convoy_find (cond (m.Until != 0) (c.Mates.take i) default) m.Ward) (some default)) = some (cond (m.Until != 0) v default) := by
    cases (m.Until != 0)
    · rfl
    · exact ev
  have f2 : ((m.Until != 0) && decide ((cond (m.Until != 0) v default) ≥ 0)) = ((m.Until != 0) && foundL c i m.Ward) := by
    cases (m.Until != 0)
    · rfl
    · exact fv
  rw [e1, Option.bind_some, e2, Option.bind_some, f2]
  have e3 : (cond ((m.Until != 0) && foundL c i m.Ward) (convoy_holds (cond ((m.Until != 0) && foundL c i m.Ward) (c.Mates.take i) default) m.Ward m.WardGuess) (some default)) = some (cond ((m.Until != 0) && foundL c i m.Ward) (holdL c i m.Ward m.WardGuess) default) := by
    cases ((m.Until != 0) && foundL c i m.Ward)
    · rfl
    · exact holds_take c hl i _ _
  rw [e3, Option.bind_some, convoy_Below_eq]
  simp only [cond_some, Option.bind_some]
  have nd : ∀ a b d : Bool, (a && !(cond a b d)) = (a && !b) := by intro a b d; cases a <;> rfl
  rw [nd, nd, nd]
  have e4 : ((cond (decide ((i : Int) > 0)) (geti c.Mates (w64 ((i : Int) - 1))) (some default)).bind fun v10 => ((cond (((decide ((i : Int) > 0)) && (v10.ID != m.Ahead)) && (!(m.Until == 0))) (geti c.Mates (w64 ((i : Int) - 1))) (some default))).bind fun v11 => some (cond (((decide ((i : Int) > 0)) && (v10.ID != m.Ahead)) && ((m.Until == 0) || (v11.ID != m.Ward))) (Stp.out (σ := Int) (Sum.inr (α := Unit) false)) (.go (w64 ((i : Int) + 1))))) = some (cond (bad4 c i m) (.out (.inr false)) (.go (w64 ((i : Int) + 1)))) := by
    unfold bad4 prevL
    by_cases z : 0 < i
    · obtain ⟨k, g1, g2⟩ := prev_at hl h z
      rw [show decide ((i : Int) > 0) = true from decide_eq_true (by omega), g1, if_pos z, g2]
      simp only [cond_true, Option.bind_some, Bool.true_and, cond_some]
      cases (k.ID != m.Ahead) <;> cases (m.Until == 0) <;> rfl
    · rw [show decide ((i : Int) > 0) = false from decide_eq_false (by omega), if_neg z]
      rfl
  rw [e4]
  simp only [cond_some]
  unfold badM bad1 bad2 bad3
  cases ((m.Ahead != 0) && !holdL c i m.Ahead m.Guess_) <;> cases (((m.Until != 0) && foundL c i m.Ward) && !holdL c i m.Ward m.WardGuess) <;> cases (((m.Until != 0) && (m.Ward == c.Guest_.ID)) && !belowM m.WardGuess (w64 (c.Guest_.S - c.Guest_.Len)) c.Guest_.V) <;> cases bad4 c i m <;> rfl
theorem convoy_Sound_eq (c : Convoy) (hl : c.Mates.length ≤ 1000000) : convoy_Sound c = some (soundM c) := by
  unfold convoy_Sound soundM
  rw [convoy_Check_eq c hl, Option.bind_some]
  by_cases h : chkM c = 0
  · rw [h, show ((0 : Int) != 0) = false from rfl, show ((0 : Int) == 0) = true from rfl, cond_false, Bool.true_and]
    have h1 := scan (f := convoy_Sound_l1 c) c.Mates (badM c) false (by omega) 0 (fun i m _ hm => sound_l1 c hl i m hm) (by unfold convoy_Sound_l1; simp) (by omega)
    rw [show ((0 : Nat) : Int) = 0 from rfl, List.drop_zero] at h1
    rw [h1]
    cases anyI (badM c) 0 c.Mates
    · have := holds_take c hl c.Mates.length c.Guest_.Ahead c.Guest_.Guess_
      rw [List.take_length] at this
      simp only [Bool.false_eq_true, if_false, thenS, this, cond_some, Option.bind_some, or_cond, Bool.not_false, Bool.true_and]
    · rfl
  · rw [show (chkM c != 0) = true by simpa using h, show (chkM c == 0) = false by simpa using h]; rfl
end Go.Abs.Convoy

namespace Go.Abs.Convoy
open Go Go.Abs

/-! ### Gaps -/
end Go.Abs.Convoy

namespace Go.Abs.Convoy
open Go Go.Abs

/-! ### Equal convoys -/
end Go.Abs.Convoy

namespace Go.Abs.Convoy
open Go Go.Abs

/-! ### What a step is -/
def countsM (n : Note) (t : Int) : Bool := within n.Kind 1 4 && within n.From 1 99 && within n.Stamp (max 0 (t - 20)) t && guessM ⟨n.R, n.V⟩ && within n.Until 0 2199023255552
def agedM (n : Note) (t : Int) : Guess := ageM ⟨n.R, n.V⟩ (t - n.Stamp)
def sightP (id : Int) (x : Sight) : Bool := x.By == id && decide (x.Lo ≤ x.Hi) && decide (x.VLo ≤ x.VHi) && decide (-20000 ≤ x.Lo) && decide (x.Hi ≤ 2199023255552) && decide (0 ≤ x.VLo) && decide (x.VHi ≤ 2000)
def sightM (l : List Sight) (id : Int) : Option Sight := l.find? (sightP id)
/-- A mate hears a hail. -/
def hailM (m : Mate) (n : Note) (x : Option Sight) (t : Int) : Mate :=
  let m := if m.Until ≠ 0 ∧ n.From = m.Ward then { m with WardGuess := betterM m.WardGuess (agedM n t) } else m
  if m.Ahead ≠ 0 ∧ n.From = m.Ahead then
    match x with
    | some x => if n.Stamp = t ∧ (within n.R x.Lo x.Hi && within n.V x.VLo x.VHi) = false then { m with Trust := false } else m
    | none => if m.Trust then { m with Guess_ := betterM m.Guess_ (agedM n t) } else m
  else m
def askM (m : Mate) (n : Note) (t : Int) : Mate :=
  if n.To ≠ m.ID then m
  else if m.Ward = 0 ∨ (n.From = m.Ward ∧ m.Until ≠ 0 ∧ m.Until < n.Stamp) then { m with Ward := n.From, WardGuess := agedM n t, Until := 0 }
  else if n.From = m.Ward then { m with WardGuess := betterM m.WardGuess (agedM n t) }
  else m
def doneM (m : Mate) (n : Note) (x : Option Sight) (t : Int) : Mate :=
  if n.To ≠ m.ID ∨ m.Until = 0 ∨ n.From ≠ m.Ward then m
  else { m with Ahead := m.Ward, Guess_ := (match x with | some _ => m.WardGuess | none => betterM m.WardGuess (agedM n t)), Trust := true, Ward := 0, WardGuess := ⟨0, 0⟩, Until := 0 }
def hearM (m : Mate) (n : Note) (x : Option Sight) (t : Int) : Mate :=
  if n.Kind = 1 then hailM m n x t else if n.Kind = 2 then askM m n t else if n.Kind = 4 then doneM m n x t else m
def asksM (m : Mate) (t : Int) (n : Note) : Bool := countsM n t && n.Kind == 2 && n.To == m.ID && n.From == m.Ward && n.From != m.ID
def forgetM (m : Mate) (asked : Bool) : Mate := if m.Ward ≠ 0 ∧ m.Until = 0 ∧ asked = false then { m with Ward := 0, WardGuess := ⟨0, 0⟩, Until := 0 } else m
def seeM (m : Mate) (x : Option Sight) : Mate := match x with
  | some x => if m.Ahead ≠ 0 then { m with Guess_ := betterM m.Guess_ ⟨x.Lo, x.VLo⟩ } else m
  | none => m
def grantM (gap t : Int) (m : Mate) : Mate := if m.Ward ≠ 0 ∧ m.Until = 0 ∧ safeM m.S m.V gap m.WardGuess = true then { m with Until := t + 30 } else m
def heardM (notes : List Note) (x : Option Sight) (t : Int) (m : Mate) : Mate := notes.foldl (fun k n => if countsM n t && n.From != m.ID then hearM k n x t else k) m
def believeM (c : Convoy) (notes : List Note) (sights : List Sight) (m : Mate) : Mate :=
  let k := heardM notes (sightM sights m.ID) c.Tick m
  grantM c.Gap c.Tick (seeM (forgetM k (notes.any (asksM k c.Tick))) (sightM sights m.ID))
/-- The speed after a tick. -/
def speedM (v a : Int) : Int := max 0 (min (v + a) 2000)
/-- The greatest acceleration that is right, from one on down to -90. -/
def downM (right : Int → Bool) : Nat → Int → Int
  | 0, a => a
  | k + 1, a => if right a then a else downM right k (a - 1)
def greatM (right : Int → Bool) (want : Int) : Int := downM right (max (-90) (min want 30) + 90).toNat (max (-90) (min want 30))
def mayM (gap : Int) (m : Mate) (a : Int) : Bool := keepM gap m (m.S + speedM m.V a) (speedM m.V a) (ageM m.Guess_ 1) (ageM m.WardGuess 1)
def wantM (m : Mate) (want : Int) : Int := if m.Ward ≠ 0 ∧ m.Until = 0 then min want (-20) else want
def driveM (gap : Int) (m : Mate) (want : Int) : Mate :=
  let v := speedM m.V (greatM (mayM gap m) (wantM m want))
  { m with S := m.S + v, V := v, Guess_ := if m.Ahead ≠ 0 then ageM m.Guess_ 1 else m.Guess_, WardGuess := if m.Ward ≠ 0 then ageM m.WardGuess 1 else m.WardGuess }
def idAt (c : Convoy) (i : Int) : Int := if 0 ≤ i then (match c.Mates[i.toNat]? with | some m => m.ID | none => 0) else 0
def nearM (g : Guest) (id : Int) (x : Guess) : Guest := { g with Ahead := id, Guess_ := if g.Ahead ≠ 0 then betterM g.Guess_ x else x }
def learnM (front back t : Int) (g : Guest) (n : Note) : Guest :=
  if countsM n t then
    if n.Kind = 1 ∧ front ≠ 0 ∧ n.From = front then nearM g front (agedM n t)
    else if n.Kind = 3 ∧ n.To = g.ID ∧ back ≠ 0 ∧ n.From = back ∧ t ≤ n.Until then { g with From := back, Until := n.Until }
    else g
  else g
def learnsM (c : Convoy) (notes : List Note) (sights : List Sight) : Guest :=
  let front := idAt c (besM c).1
  let back := idAt c (besM c).2
  let g := if c.Guest_.Ahead ≠ front then { c.Guest_ with Ahead := 0, Guess_ := ⟨0, 0⟩ } else c.Guest_
  let g := notes.foldl (learnM front back c.Tick) g
  match sightM sights g.ID with
  | some x => if front ≠ 0 then nearM g front ⟨x.Lo, x.VLo⟩ else g
  | none => g
def mergeM (c : Convoy) (g : Guest) : Bool :=
  let front := idAt c (besM c).1
  let back := idAt c (besM c).2
  (front == 0 || (g.Ahead == front && safeM g.S g.V c.Gap g.Guess_)) && (back == 0 || (g.From == back && decide (c.Tick ≤ g.Until)))
def rollM (g : Guest) (want : Int) : Guest :=
  let v := speedM g.V (greatM (fun a => decide (g.S + speedM g.V a + stopM (speedM g.V a) < g.End)) want)
  { g with S := g.S + v, V := v, Guess_ := if g.Ahead ≠ 0 then ageM g.Guess_ 1 else g.Guess_ }
def farM (c : Convoy) : Bool := decide (1099511625776 < c.Guest_.S) || c.Mates.any (fun m => decide (1099511625776 < m.S))
def wantsM (l : List Int) (i : Nat) : Int := l.getD i 0
def newMate (g : Guest) : Mate := ⟨g.ID, g.S, g.V, g.Len, g.Ahead, g.Guess_, true, 0, ⟨0, 0⟩, 0⟩
def matesM (c : Convoy) (wants : List Int) (notes : List Note) (sights : List Sight) : List Mate := c.Mates.mapIdx fun i m => driveM c.Gap (believeM c notes sights m) (wantsM wants i)
def stepM (c : Convoy) (wants : List Int) (notes : List Note) (sights : List Sight) : Convoy × Int :=
  if chkM c ≠ 0 then (C0, chkM c)
  else if 60 < notes.length ∨ 60 < sights.length ∨ c.Tick = 1099511627776 ∨ farM c = true then (C0, 2)
  else
    let ms := matesM c wants notes sights
    if c.Guest_.ID = 0 then (⟨c.Tick + 1, c.Gap, ms, G0⟩, 0)
    else
      let g := learnsM c notes sights
      let w := wantsM wants c.Mates.length
      if mergeM c g then (⟨c.Tick + 1, c.Gap, ms.take ((besM c).1 + 1).toNat ++ driveM c.Gap (newMate g) w :: ms.drop ((besM c).1 + 1).toNat, G0⟩, 0)
      else (⟨c.Tick + 1, c.Gap, ms, rollM g w⟩, 0)
end Go.Abs.Convoy

namespace Go.Abs.Convoy
open Go Go.Abs

/-! ### What stays true of a convoy: somebody's body, and what is below it -/
inductive Body (c : Convoy) (id : Int) : Int → Int → Prop
  | mate (i : Nat) (m : Mate) (h : c.Mates[i]? = some m) (hid : m.ID = id) : Body c id (m.S - m.Len) m.V
  | guest (h : c.Guest_.ID = id) (h0 : id ≠ 0) : Body c id (c.Guest_.S - c.Guest_.Len) c.Guest_.V
def Bel (c : Convoy) (id : Int) (g : Guess) : Prop := ∃ r v, Body c id r v ∧ Lower g ⟨r, v⟩
/-- A guess's numbers. -/
def GB (g : Guess) : Prop := (-20000 ≤ g.R ∧ g.R ≤ 2199023255552) ∧ 0 ≤ g.V ∧ g.V ≤ 2000
theorem GB.num {g : Guess} (h : GB g) : (-20000 ≤ g.R ∧ g.R ≤ 2199023255552) ∧ 0 ≤ g.V ∧ g.V ≤ 2000 := h
theorem Lower.refl (g : Guess) : Lower g g := ⟨Int.le_refl _, Int.le_refl _⟩
theorem better_of {g h : Guess} (hg : GB g) (hh : GB h) : betterM g h = g ∨ (betterM g h = h ∧ Lower g h) := by
  have a := hg.num
  have b := hh.num
  rw [better_eq (sane4 (by omega))]
  split
  · rename_i q; exact .inr ⟨rfl, q⟩
  · exact .inl rfl
theorem better_GB {g h : Guess} (hg : GB g) (hh : GB h) : GB (betterM g h) := by
  rcases better_of hg hh with e | ⟨e, _⟩ <;> rw [e] <;> assumption
theorem better_up {g h : Guess} (hg : GB g) (hh : GB h) : Lower g (betterM g h) := by
  rcases better_of hg hh with e | ⟨e, l⟩ <;> rw [e]
  · exact Lower.refl g
  · exact l
theorem better_low {g h x : Guess} (hg : GB g) (hh : GB h) (a : Lower g x) (b : Lower h x) : Lower (betterM g h) x := by
  rcases better_of hg hh with e | ⟨e, _⟩ <;> rw [e] <;> assumption
theorem age1_of {g : Guess} (hg : GB g) : ageM g 1 = age1 g := by
  have a := hg.num
  unfold ageM
  rw [if_pos (by simp [saneM, sane1_iff]; omega)]
  rfl
theorem ageN_succ' : ∀ (n : Nat) (g : Guess), ageN (n + 1) g = age1 (ageN n g)
  | 0, g => rfl
  | n + 1, g => by
    show ageN (n + 1) (age1 g) = age1 (ageN n (age1 g))
    exact ageN_succ' n (age1 g)
/-- The one above a guess stays above the aged guess, whatever it does. -/
theorem age_move {g : Guess} {r v w : Int} (hg : 0 ≤ g.V ∧ g.V ≤ 2000) (hv : 0 ≤ v ∧ v ≤ 2000) (hw : max 0 (v - 90) ≤ w ∧ w ≤ 2000) (L : Lower g ⟨r, v⟩) : Lower (age1 g) ⟨r + w, w⟩ := by
  refine (age1_lower hg hv L).trans ⟨?_, ?_⟩
  · unfold age1; dsimp only; omega
  · have := stop_mono hw.1 (by omega)
    unfold endM age1; dsimp only; omega
theorem age1_V {g : Guess} (h : 0 ≤ g.V ∧ g.V ≤ 2000) : 0 ≤ (age1 g).V ∧ (age1 g).V ≤ 2000 := by unfold age1; dsimp only; omega
theorem ageN_V : ∀ (n : Nat) {g : Guess}, (0 ≤ g.V ∧ g.V ≤ 2000) → 0 ≤ (ageN n g).V ∧ (ageN n g).V ≤ 2000
  | 0, _, h => h
  | n + 1, _, h => ageN_V n (age1_V h)
theorem ageN_R : ∀ (n : Nat) {g : Guess}, (0 ≤ g.V ∧ g.V ≤ 2000) → g.R ≤ (ageN n g).R
  | 0, _, _ => Int.le_refl _
  | n + 1, g, h => by
    have := ageN_R n (age1_V h)
    have e : g.R ≤ (age1 g).R := by unfold age1; dsimp only; omega
    exact Int.le_trans e this
theorem speed_bd (v a : Int) : 0 ≤ speedM v a ∧ speedM v a ≤ 2000 := by unfold speedM; omega
theorem speed_low {v a : Int} (h : 0 ≤ v ∧ v ≤ 2000) (ha : -90 ≤ a) : max 0 (v - 90) ≤ speedM v a := by unfold speedM; omega

/-- What is true of a mate at a place; what it believes may be newer than the convoy. -/
structure MateI (G T : Int) (c : Convoy) (i : Nat) (m : Mate) : Prop where
  id : 1 ≤ m.ID ∧ m.ID ≤ 99
  s : 0 ≤ m.S ∧ m.S ≤ 17000000 + 2000 * c.Tick
  v : 0 ≤ m.V ∧ m.V ≤ 2000
  len : 300 ≤ m.Len ∧ m.Len ≤ 20000
  g : GB m.Guess_
  w : GB m.WardGuess
  ahead : m.Ahead ≠ 0 → ∃ (k : Nat) (km : Mate), k < i ∧ c.Mates[k]? = some km ∧ km.ID = m.Ahead ∧ Lower m.Guess_ ⟨km.S - km.Len, km.V⟩
  ward : m.Ward ≠ 0 → m.Ward = G ∧ Bel c G m.WardGuess
  untl : m.Until ≠ 0 → m.Ward ≠ 0
  ub : 0 ≤ m.Until ∧ m.Until ≤ c.Tick + 30
  sA : m.Ahead ≠ 0 → Lower ⟨m.S + c.Gap, m.V⟩ m.Guess_
  sW : m.Until ≠ 0 → Lower ⟨m.S + c.Gap, m.V⟩ m.WardGuess
  pred : ∀ k, 0 < i → c.Mates[i - 1]? = some k → k.ID = m.Ahead ∨ (k.ID = m.Ward ∧ m.Until ≠ 0 ∧ T ≤ m.Until)
  first : i = 0 → m.Ahead = 0
structure GuestI (G T : Int) (c : Convoy) (g : Guest) : Prop where
  id : g.ID = G
  gid : 1 ≤ G ∧ G ≤ 99
  new : ∀ (i : Nat) m, c.Mates[i]? = some m → m.ID ≠ G
  s : 0 ≤ g.S ∧ g.S ≤ 17000000 + 2000 * c.Tick
  v : 0 ≤ g.V ∧ g.V ≤ 2000
  len : 300 ≤ g.Len ∧ g.Len ≤ 20000
  stops : g.S + stopM g.V < g.End
  fin : g.End ≤ 1099511627776
  gs : GB g.Guess_
  ahead : g.Ahead ≠ 0 → ∃ (k : Nat) (km : Mate), c.Mates[k]? = some km ∧ km.ID = g.Ahead ∧ Lower g.Guess_ ⟨km.S - km.Len, km.V⟩
  from_ : 0 ≤ g.From ∧ g.From ≤ 99
  ub : 0 ≤ g.Until ∧ g.Until ≤ c.Tick + 30
  fromU : g.From ≠ 0 → 0 < g.Until
  grant : g.From ≠ 0 → c.Tick ≤ g.Until → ∃ (k : Nat) (km : Mate), c.Mates[k]? = some km ∧ km.ID = g.From ∧ km.Ward = G ∧ km.Until = g.Until
  now : T = c.Tick
structure Inv (G T : Int) (c : Convoy) : Prop where
  tick : 0 ≤ c.Tick ∧ c.Tick ≤ 1000
  gap : 1 ≤ c.Gap ∧ c.Gap ≤ 20000
  gpos : G ≠ 0
  one : 1 ≤ c.Mates.length
  many : c.Mates.length + (if c.Guest_.ID = 0 then 0 else 1) ≤ 8
  mates : ∀ (i : Nat) m, c.Mates[i]? = some m → MateI G T c i m
  dist : ∀ (i j : Nat) a b, c.Mates[i]? = some a → c.Mates[j]? = some b → a.ID = b.ID → i = j
  guest : c.Guest_ = G0 ∨ GuestI G T c c.Guest_
/-- What is true of a note that was sent. -/
structure NoteI (G T : Int) (c : Convoy) (n : Note) : Prop where
  stamp : 0 ≤ n.Stamp ∧ n.Stamp ≤ c.Tick
  gb : GB ⟨n.R, n.V⟩
  bel : Bel c n.From (ageN (c.Tick - n.Stamp).toNat ⟨n.R, n.V⟩)
  ask : n.Kind = 2 → n.From = G ∧ n.Stamp ≤ T
  grant : n.Kind = 3 → n.To = G ∧ (0 < n.Until ∧ n.Until ≤ c.Tick + 30) ∧ (c.Guest_.ID = G → c.Tick ≤ n.Until → ∃ (k : Nat) (km : Mate), c.Mates[k]? = some km ∧ km.ID = n.From ∧ km.Ward = G ∧ km.Until = n.Until)
  done : n.Kind = 4 → n.From = G → ∃ (i : Nat) (k m : Mate), c.Mates[i]? = some k ∧ k.ID = G ∧ c.Mates[i + 1]? = some m ∧ m.ID = n.To

section
variable {G T : Int} {c : Convoy}
theorem Inv.noG (I : Inv G T c) (h : c.Guest_.ID ≠ 0) : GuestI G T c c.Guest_ := by
  rcases I.guest with e | e
  · rw [e] at h; exact absurd rfl h
  · exact e
/-- A body is one. -/
theorem Inv.body (I : Inv G T c) {id r v r' v' : Int} (h : Body c id r v) (h' : Body c id r' v') : r = r' ∧ v = v' := by
  cases h with
  | mate i m hm hid =>
    cases h' with
    | mate j k hk hid' =>
      obtain rfl := I.dist i j m k hm hk (hid.trans hid'.symm)
      rw [hm] at hk; cases hk; exact ⟨rfl, rfl⟩
    | guest hg h0 =>
      have gi := I.noG (by rw [hg]; exact h0)
      exact absurd (hid.trans (hg.symm.trans gi.id)) (gi.new i m hm)
  | guest hg h0 =>
    have gi := I.noG (by rw [hg]; exact h0)
    cases h' with
    | mate j k hk hid' => exact absurd (hid'.trans (hg.symm.trans gi.id)) (gi.new j k hk)
    | guest => exact ⟨rfl, rfl⟩
theorem Inv.bel (I : Inv G T c) {id r v : Int} {g : Guess} (h : Bel c id g) (h' : Body c id r v) : Lower g ⟨r, v⟩ := by
  obtain ⟨r', v', hb, L⟩ := h
  obtain ⟨rfl, rfl⟩ := I.body hb h'
  exact L
theorem Inv.bodyB (I : Inv G T c) {id r v : Int} (h : Body c id r v) : (-20000 ≤ r ∧ r ≤ 17000000 + 2000 * c.Tick) ∧ 0 ≤ v ∧ v ≤ 2000 := by
  cases h with
  | mate i m hm hid => have M := I.mates i m hm; have := M.s; have := M.v; have := M.len; omega
  | guest hg h0 => have M := I.noG (by rw [hg]; exact h0); have := M.s; have := M.v; have := M.len; omega
theorem bel_GB (I : Inv G T c) {id : Int} {g : Guess} (hv : 0 ≤ g.V ∧ g.V ≤ 2000) (hr : -20000 ≤ g.R) (h : Bel c id g) : GB g := by
  obtain ⟨r, v, hb, L⟩ := h
  have b := I.bodyB hb
  have := I.tick
  have := L.1
  unfold GB; dsimp only at this; omega
/-- What a note's guess is. -/
theorem note_guess (I : Inv G T c) {n : Note} (N : NoteI G T c n) (hc : countsM n c.Tick = true) : GB (agedM n c.Tick) ∧ Bel c n.From (agedM n c.Tick) := by
  have hs : c.Tick - n.Stamp ≤ 20 := by
    unfold countsM at hc
    simp only [Bool.and_eq_true, within_iff] at hc
    omega
  have st := N.stamp
  have gb := N.gb
  have e : agedM n c.Tick = ageN (c.Tick - n.Stamp).toNat ⟨n.R, n.V⟩ := by
    unfold agedM ageM
    have := gb.num
    dsimp only at this
    rw [if_pos (by simp [saneM, sane1_iff]; omega)]
    congr 1; omega
  rw [e]
  refine ⟨bel_GB I (ageN_V _ gb.2) ?_ N.bel, N.bel⟩
  have := ageN_R (c.Tick - n.Stamp).toNat gb.2
  have := gb.1
  dsimp only at *
  omega

theorem MateI.setG {i : Nat} {m : Mate} (M : MateI G T c i m) {g : Guess} (h1 : GB g) (h2 : m.Ahead ≠ 0 → ∃ (k : Nat) (km : Mate), k < i ∧ c.Mates[k]? = some km ∧ km.ID = m.Ahead ∧ Lower g ⟨km.S - km.Len, km.V⟩) (h3 : m.Ahead ≠ 0 → Lower ⟨m.S + c.Gap, m.V⟩ g) : MateI G T c i { m with Guess_ := g } :=
  ⟨M.id, M.s, M.v, M.len, h1, M.w, h2, M.ward, M.untl, M.ub, h3, M.sW, M.pred, M.first⟩
theorem MateI.setT {i : Nat} {m : Mate} (M : MateI G T c i m) (b : Bool) : MateI G T c i { m with Trust := b } :=
  ⟨M.id, M.s, M.v, M.len, M.g, M.w, M.ahead, M.ward, M.untl, M.ub, M.sA, M.sW, M.pred, M.first⟩
theorem MateI.setA {i : Nat} {m : Mate} (M : MateI G T c i m) {f : Int} {w : Guess} (ht : 0 ≤ c.Tick) (hp : ∀ k, 0 < i → c.Mates[i - 1]? = some k → k.ID = m.Ahead) (h1 : GB w) (h2 : f ≠ 0 → f = G ∧ Bel c G w) : MateI G T c i { m with Ward := f, WardGuess := w, Until := 0 } :=
  ⟨M.id, M.s, M.v, M.len, M.g, h1, M.ahead, h2, fun h => absurd rfl h, ⟨Int.le_refl _, by dsimp only; omega⟩, M.sA, fun h => absurd rfl h, fun k a b => .inl (hp k a b), M.first⟩
theorem pred_ahead {i : Nat} {m : Mate} (M : MateI G T c i m) (h : m.Until = 0) : ∀ k, 0 < i → c.Mates[i - 1]? = some k → k.ID = m.Ahead := fun k a b => by
  rcases M.pred k a b with e | ⟨_, e, _⟩
  · exact e
  · exact absurd h e
/-- What a mate keeps while it hears. -/
structure Same4 (m0 k : Mate) : Prop where
  id : k.ID = m0.ID
  s : k.S = m0.S
  v : k.V = m0.V
  len : k.Len = m0.Len
theorem Same4.refl (m : Mate) : Same4 m m := ⟨rfl, rfl, rfl, rfl⟩
theorem Same4.trans {a b d : Mate} (h : Same4 a b) (h' : Same4 b d) : Same4 a d := ⟨h'.id.trans h.id, h'.s.trans h.s, h'.v.trans h.v, h'.len.trans h.len⟩
theorem hear_same (m : Mate) (n : Note) (x : Option Sight) (t : Int) : Same4 m (hearM m n x t) := by
  unfold hearM hailM askM doneM
  cases x <;> dsimp only <;> (repeat' split) <;> exact ⟨rfl, rfl, rfl, rfl⟩
/-- A grant that holds is kept as long as the guest has not merged. -/
def Holds (G u : Int) (m : Mate) : Prop := m.Ward = G ∧ m.Until = u
theorem hear_holds (I : Inv G T c) {m : Mate} {n : Note} {x : Option Sight} {u : Int} (H : Holds G u m) (hu : 0 < u) (ht : c.Tick ≤ u) (hg : c.Guest_.ID = G) (N : NoteI G T c n) : Holds G u (hearM m n x c.Tick) := by
  obtain ⟨h1, h2⟩ := H
  have gi := I.noG (by rw [hg]; exact I.gpos)
  unfold hearM
  split
  · unfold hailM
    cases x <;> dsimp only <;> (repeat' split) <;> exact ⟨h1, h2⟩
  · split
    · unfold askM
      split
      · exact ⟨h1, h2⟩
      · split
        · rename_i h
          have := N.stamp
          have := I.gpos
          omega
        · split <;> exact ⟨h1, h2⟩
    · split
      · rename_i hk
        unfold doneM
        split
        · exact ⟨h1, h2⟩
        · rename_i h
          simp only [not_or, Decidable.not_not] at h
          obtain ⟨j, kk, mm, a1, a2, _⟩ := N.done hk (h.2.2.trans h1)
          exact absurd a2 (gi.new j kk a1)
      · exact ⟨h1, h2⟩
end
end Go.Abs.Convoy

namespace Go.Abs.Convoy
open Go Go.Abs

section
variable {G T : Int} {c : Convoy}
/-! ### The chain of mates -/
theorem pred_lower (I : Inv G T c) {i : Nat} {m k : Mate} (hm : c.Mates[i]? = some m) (hi : 0 < i) (hk : c.Mates[i - 1]? = some k) : Lower ⟨m.S + c.Gap, m.V⟩ ⟨k.S - k.Len, k.V⟩ := by
  have M := I.mates i m hm
  have K := I.mates _ k hk
  rcases M.pred k hi hk with e | ⟨e, u, _⟩
  · have h0 : m.Ahead ≠ 0 := by have := K.id; omega
    obtain ⟨j, km, h1, h2, h3, h4⟩ := M.ahead h0
    obtain rfl : j = i - 1 := I.dist _ _ _ _ h2 hk (h3.trans e.symm)
    rw [hk] at h2; cases h2
    exact (M.sA h0).trans h4
  · obtain ⟨e1, b⟩ := M.ward (M.untl u)
    exact (M.sW u).trans (I.bel b (.mate _ k hk (e.trans e1)))
theorem chain_lower (I : Inv G T c) : ∀ (d i : Nat) {m k : Mate}, c.Mates[i]? = some k → c.Mates[i + d]? = some m → Lower ⟨m.S - m.Len, m.V⟩ ⟨k.S - k.Len, k.V⟩
  | 0, i, m, k, hk, hm => by
    rw [Nat.add_zero, hk] at hm; cases hm; exact Lower.refl _
  | d + 1, i, m, k, hk, hm => by
    have hlt := get_lt hm
    obtain ⟨p, hp⟩ : ∃ p, c.Mates[i + d]? = some p := ⟨_, List.getElem?_eq_getElem (by omega)⟩
    have h1 := pred_lower I hm (by omega) (by rw [show i + (d + 1) - 1 = i + d by omega]; exact hp)
    have M := I.mates _ m hm
    refine Lower.trans ⟨?_, ?_⟩ (h1.trans (chain_lower I d i hk hp))
    · have := M.len; have := I.gap; dsimp only; omega
    · have := M.len; have := I.gap; unfold endM; dsimp only; omega

/-! ### Sights -/
structure SightI (G : Int) (c : Convoy) (x : Sight) : Prop where
  mate : ∀ (i : Nat) m k, c.Mates[i]? = some m → m.ID = x.By → 0 < i → c.Mates[i - 1]? = some k → Lower ⟨x.Lo, x.VLo⟩ ⟨k.S - k.Len, k.V⟩
  guest : c.Guest_.ID ≠ 0 → c.Guest_.ID = x.By → ∀ (k : Nat) km, (besM c).1 = (k : Int) → c.Mates[k]? = some km → Lower ⟨x.Lo, x.VLo⟩ ⟨km.S - km.Len, km.V⟩
theorem sight_of {l : List Sight} {id : Int} {x : Sight} (h : sightM l id = some x) : x ∈ l ∧ x.By = id ∧ GB ⟨x.Lo, x.VLo⟩ := by
  have h1 := List.mem_of_find?_eq_some h
  have h2 := List.find?_some h
  unfold sightP at h2
  simp only [Bool.and_eq_true, decide_eq_true_eq, beq_iff_eq] at h2
  refine ⟨h1, h2.1.1.1.1.1.1, ?_⟩
  unfold GB; dsimp only; omega

/-! ### What a mate believes -/
theorem forget_inv (I : Inv G T c) {i : Nat} {m : Mate} (M : MateI G T c i m) (b : Bool) : MateI G T c i (forgetM m b) := by
  unfold forgetM
  split
  · rename_i h
    exact M.setA I.tick.1 (pred_ahead M h.2.1) (by unfold GB; dsimp only; omega) (fun h => absurd rfl h)
  · exact M
theorem see_inv (I : Inv G T c) {i : Nat} {m m0 : Mate} {l : List Sight} (hl : ∀ x ∈ l, SightI G c x) (M : MateI G T c i m) (hm : c.Mates[i]? = some m0) : MateI G T c i (seeM m (sightM l m0.ID)) := by
  cases hx : sightM l m0.ID with
  | none => exact M
  | some x =>
    obtain ⟨h1, h2, h3⟩ := sight_of hx
    unfold seeM
    dsimp only
    split
    · refine M.setG (better_GB M.g h3) (fun ha => ?_) (fun ha => (M.sA ha).trans (better_up M.g h3))
      obtain ⟨j, km, a1, a2, a3, a4⟩ := M.ahead ha
      have hlt := get_lt hm
      obtain ⟨p, hp⟩ : ∃ p, c.Mates[i - 1]? = some p := ⟨_, List.getElem?_eq_getElem (by omega)⟩
      have q := (hl x h1).mate i m0 p hm h2.symm (by omega) hp
      exact ⟨j, km, a1, a2, a3, better_low M.g h3 a4 (q.trans (chain_lower I (i - 1 - j) j a2 (by rw [show j + (i - 1 - j) = i - 1 by omega]; exact hp)))⟩
    · exact M
theorem grant_inv (I : Inv G T c) {i : Nat} {m : Mate} (M : MateI G T c i m) : MateI G T c i (grantM c.Gap c.Tick m) := by
  unfold grantM
  split
  · rename_i h
    have e := I.tick
    have gp := I.gap
    have a1 := M.s
    have a2 := M.v
    have a3 := M.w.num
    have hs := (safeM_iff (sane5 (by omega))).1 h.2.2
    exact ⟨M.id, M.s, M.v, M.len, M.g, M.w, M.ahead, M.ward, fun _ => h.1, ⟨by dsimp only; omega, by dsimp only; omega⟩, M.sA, fun _ => hs, fun k a b => .inl (pred_ahead M h.2.1 k a b), M.first⟩
  · exact M
theorem forget_same (m : Mate) (b : Bool) : Same4 m (forgetM m b) := by unfold forgetM; split <;> exact ⟨rfl, rfl, rfl, rfl⟩
theorem see_same (m : Mate) (x : Option Sight) : Same4 m (seeM m x) := by unfold seeM; cases x <;> dsimp only <;> (repeat' split) <;> exact ⟨rfl, rfl, rfl, rfl⟩
theorem grant_same (gap t : Int) (m : Mate) : Same4 m (grantM gap t m) := by unfold grantM; split <;> exact ⟨rfl, rfl, rfl, rfl⟩
/-- What the notes have to be, so that hearing them keeps what is true of a mate. -/
def Kind1 (G T : Int) (c : Convoy) (i : Nat) (m0 : Mate) (x : Option Sight) (n : Note) : Prop :=
  countsM n c.Tick = true → n.From ≠ m0.ID → ∀ k, MateI G T c i k → Same4 m0 k → MateI G T c i (hearM k n x c.Tick)
theorem heard_fold {i : Nat} {m0 : Mate} {x : Option Sight} : ∀ (notes : List Note), (∀ n ∈ notes, Kind1 G T c i m0 x n) → ∀ k, MateI G T c i k → Same4 m0 k →
    MateI G T c i (notes.foldl (fun k n => if countsM n c.Tick && n.From != m0.ID then hearM k n x c.Tick else k) k) ∧ Same4 m0 (notes.foldl (fun k n => if countsM n c.Tick && n.From != m0.ID then hearM k n x c.Tick else k) k)
  | [], _, k, M, S => ⟨M, S⟩
  | n :: r, h, k, M, S => by
    rw [List.foldl_cons]
    refine heard_fold r (fun n hn => h n (List.mem_cons_of_mem _ hn)) _ ?_ ?_
    · split
      · rename_i q
        simp only [Bool.and_eq_true, bne_iff_ne, ne_eq] at q
        exact h n (List.mem_cons_self) q.1 q.2 k M S
      · exact M
    · split
      · exact S.trans (hear_same _ _ _ _)
      · exact S
theorem believe_inv (I : Inv G T c) {i : Nat} {m : Mate} {notes : List Note} {sights : List Sight} (hm : c.Mates[i]? = some m) (hn : ∀ n ∈ notes, Kind1 G T c i m (sightM sights m.ID) n) (hs : ∀ x ∈ sights, SightI G c x) :
    MateI G T c i (believeM c notes sights m) ∧ Same4 m (believeM c notes sights m) := by
  obtain ⟨h1, h2⟩ := heard_fold notes hn m (I.mates i m hm) (Same4.refl m)
  unfold believeM heardM
  dsimp only
  exact ⟨grant_inv I (see_inv I hs (forget_inv I h1 _) hm), ((h2.trans (forget_same _ _)).trans (see_same _ _)).trans (grant_same _ _ _)⟩
/-- A grant that holds. -/
theorem believe_holds (I : Inv G T c) {m : Mate} {notes : List Note} {sights : List Sight} (hn : ∀ n ∈ notes, NoteI G T c n) {u : Int} (H : Holds G u m) (hu : 0 < u) (ht : c.Tick ≤ u) (hg : c.Guest_.ID = G) : Holds G u (believeM c notes sights m) := by
  have key : ∀ (l : List Note), (∀ n ∈ l, NoteI G T c n) → ∀ k, Holds G u k → Holds G u (l.foldl (fun k n => if countsM n c.Tick && n.From != m.ID then hearM k n (sightM sights m.ID) c.Tick else k) k) := by
    intro l
    induction l with
    | nil => exact fun _ k h => h
    | cons n r ih =>
      intro h k hk
      rw [List.foldl_cons]
      refine ih (fun n hn => h n (List.mem_cons_of_mem _ hn)) _ ?_
      split
      · exact hear_holds I hk hu ht hg (h n List.mem_cons_self)
      · exact hk
  have h1 := key notes hn m H
  unfold believeM heardM
  dsimp only
  generalize notes.foldl (fun k n => if countsM n c.Tick && n.From != m.ID then hearM k n (sightM sights m.ID) c.Tick else k) m = k at h1
  obtain ⟨a, b⟩ := h1
  have h2 : Holds G u (forgetM k (notes.any (asksM k c.Tick))) := by
    unfold forgetM
    split
    · rename_i h; omega
    · exact ⟨a, b⟩
  have h3 : ∀ k x, Holds G u k → Holds G u (seeM k x) := by
    intro k x h
    unfold seeM
    cases x <;> dsimp only <;> (repeat' split) <;> exact h
  have h4 := h3 _ (sightM sights m.ID) h2
  generalize seeM _ _ = k' at h4
  unfold grantM
  split
  · rename_i h; have := h4.2; omega
  · exact h4

/-! ### How a mate moves -/
theorem down_ok (right : Int → Bool) : ∀ (k : Nat) (a : Int), a = -90 + k → (-90 ≤ downM right k a ∧ downM right k a ≤ a) ∧ (right (-90) = true → right (downM right k a) = true)
  | 0, a, h => by
    obtain rfl : a = -90 := by omega
    exact ⟨⟨Int.le_refl _, Int.le_refl _⟩, id⟩
  | k + 1, a, h => by
    unfold downM
    split
    · rename_i q; exact ⟨by omega, fun _ => q⟩
    · have := down_ok right k (a - 1) (by omega)
      exact ⟨by omega, this.2⟩
theorem great_ok (right : Int → Bool) (want : Int) : (-90 ≤ greatM right want ∧ greatM right want ≤ max (-90) (min want 30)) ∧ (right (-90) = true → right (greatM right want) = true) :=
  down_ok right _ _ (by omega)
theorem speed_brake {v : Int} (h : 0 ≤ v ∧ v ≤ 2000) : speedM v (-90) = max 0 (v - 90) := by unfold speedM; omega
theorem may_brake (I : Inv G T c) {i : Nat} {m : Mate} (M : MateI G T c i m) : mayM c.Gap m (-90) = true := by
  have e := I.tick
  have gp := I.gap
  have a1 := M.s
  have a2 := M.v
  have a3 := M.g.num
  have a4 := M.w.num
  unfold mayM keepM
  rw [speed_brake M.v, age1_of M.g, age1_of M.w]
  have key : ∀ g : Guess, GB g → Lower ⟨m.S + c.Gap, m.V⟩ g → safeM (m.S + max 0 (m.V - 90)) (max 0 (m.V - 90)) c.Gap (age1 g) = true := by
    intro g hg L
    have b := hg.num
    rw [safeM_iff (sane5 (by unfold age1; dsimp only; omega))]
    have := age1_lower (g := ⟨m.S + c.Gap, m.V⟩) a2 hg.2 L
    unfold age1 at this ⊢
    dsimp only at this
    rwa [show m.S + max 0 (m.V - 90) + c.Gap = m.S + c.Gap + max 0 (m.V - 90) by omega]
  rw [Bool.and_eq_true, Bool.or_eq_true, Bool.or_eq_true]
  constructor
  · by_cases h : m.Ahead = 0
    · left; simpa using h
    · right; exact key _ M.g (M.sA h)
  · by_cases h : m.Until = 0
    · left; simpa using h
    · right; exact key _ M.w (M.sW h)
/-- What a drive does to the numbers. -/
structure Drove (m k : Mate) : Prop where
  id : k.ID = m.ID
  len : k.Len = m.Len
  s : k.S = m.S + k.V
  v : max 0 (m.V - 90) ≤ k.V ∧ k.V ≤ 2000
theorem drive_drove {m : Mate} (hv : 0 ≤ m.V ∧ m.V ≤ 2000) (gap want : Int) : Drove m (driveM gap m want) :=
  ⟨rfl, rfl, rfl, speed_low hv (great_ok _ _).1.1, (speed_bd _ _).2⟩
/-- All bodies move so. -/
structure Moves (c d : Convoy) : Prop where
  tick : d.Tick = c.Tick + 1
  gap : d.Gap = c.Gap
  body : ∀ id r v, Body c id r v → ∃ w, (max 0 (v - 90) ≤ w ∧ w ≤ 2000) ∧ Body d id (r + w) w
theorem bel_moves (I : Inv G T c) {d : Convoy} (mv : Moves c d) {id : Int} {g : Guess} (hg : 0 ≤ g.V ∧ g.V ≤ 2000) (h : Bel c id g) : Bel d id (age1 g) := by
  obtain ⟨r, v, hb, L⟩ := h
  obtain ⟨w, hw, hb'⟩ := mv.body id r v hb
  exact ⟨_, _, hb', age_move hg (I.bodyB hb).2 hw L⟩
theorem drive_inv (I : Inv G T c) {d : Convoy} {i i' : Nat} {T' : Int} {k : Mate} (M : MateI G T c i k) (want : Int) (mv : Moves c d) (hle : c.Tick ≤ 1000)
    (hahead : ∀ (j : Nat) km, j < i → c.Mates[j]? = some km → ∃ (j' : Nat) (km' : Mate), j' < i' ∧ d.Mates[j']? = some km' ∧ Drove km km')
    (hpred : ∀ k', 0 < i' → d.Mates[i' - 1]? = some k' → k'.ID = k.Ahead ∨ (k'.ID = k.Ward ∧ k.Until ≠ 0 ∧ T' ≤ k.Until)) (hfirst : i' = 0 → k.Ahead = 0) : MateI G T' d i' (driveM c.Gap k want) := by
  have e := I.tick
  have gp := I.gap
  have mt := mv.tick
  have hm : keepM c.Gap k (driveM c.Gap k want).S (driveM c.Gap k want).V (ageM k.Guess_ 1) (ageM k.WardGuess 1) = true := (great_ok (mayM c.Gap k) (wantM k want)).2 (may_brake I M)
  have hd := drive_drove M.v c.Gap want (m := k)
  have a1 := M.s
  have a2 := M.v
  have a3 := M.g.num
  have a4 := M.w.num
  unfold keepM at hm
  rw [age1_of M.g, age1_of M.w, Bool.and_eq_true, Bool.or_eq_true, Bool.or_eq_true] at hm
  have hg : (driveM c.Gap k want).Guess_ = if k.Ahead ≠ 0 then age1 k.Guess_ else k.Guess_ := by rw [← age1_of M.g]; rfl
  have hw : (driveM c.Gap k want).WardGuess = if k.Ward ≠ 0 then age1 k.WardGuess else k.WardGuess := by rw [← age1_of M.w]; rfl
  have hAh : (driveM c.Gap k want).Ahead = k.Ahead := rfl
  have hWa : (driveM c.Gap k want).Ward = k.Ward := rfl
  have hUn : (driveM c.Gap k want).Until = k.Until := rfl
  generalize driveM c.Gap k want = k' at *
  have b1 := hd.s
  have b2 := hd.v
  have hA : k.Ahead ≠ 0 → ∃ (j' : Nat) (km' : Mate), j' < i' ∧ d.Mates[j']? = some km' ∧ km'.ID = k.Ahead ∧ Lower (age1 k.Guess_) ⟨km'.S - km'.Len, km'.V⟩ ∧ km'.S - km'.Len ≤ 17000000 + 2000 * c.Tick + 2000 := by
    intro h
    obtain ⟨j, km, h1, h2, h3, h4⟩ := M.ahead h
    obtain ⟨j', km', q1, q2, q3⟩ := hahead j km h1 h2
    have K := I.mates j km h2
    refine ⟨j', km', q1, q2, q3.id.trans h3, ?_, ?_⟩
    · rw [q3.s, q3.len, show km.S + km'.V - km.Len = km.S - km.Len + km'.V by omega]
      exact age_move M.g.2 K.v q3.v h4
    · have := K.s; have := K.len; have := q3.v; rw [q3.s, q3.len]; omega
  refine ⟨by rw [hd.id]; exact M.id, ?_, ⟨by omega, b2.2⟩, by rw [hd.len]; exact M.len, ?_, ?_, ?_, ?_, by rw [hUn, hWa]; exact M.untl, ?_, ?_, ?_, by rw [hAh, hWa, hUn]; exact hpred, by rw [hAh]; exact hfirst⟩
  · rw [b1, mt]; omega
  · rw [hg]
    split
    · rename_i h
      obtain ⟨j', km', _, _, _, L, q⟩ := hA h
      have l1 := L.1
      have := age1_V M.g.2
      have M' := M.g
      unfold GB at M' ⊢
      unfold age1 at l1 ⊢
      dsimp only at l1 ⊢
      omega
    · exact M.g
  · rw [hw]
    split
    · rename_i h
      obtain ⟨_, b⟩ := M.ward h
      obtain ⟨r, v, hb, L⟩ := b
      have bb := I.bodyB hb
      have l1 := L.1
      have M' := M.w
      unfold GB at M' ⊢
      unfold age1
      dsimp only at l1 ⊢
      omega
    · exact M.w
  · rw [hAh]
    intro h
    rw [hg, if_pos h]
    obtain ⟨j', km', q1, q2, q3, q4, _⟩ := hA h
    exact ⟨j', km', q1, q2, q3, q4⟩
  · rw [hWa]
    intro h
    rw [hw, if_pos h]
    exact ⟨(M.ward h).1, bel_moves I mv M.w.2 (M.ward h).2⟩
  · have := M.ub
    rw [hUn]
    omega
  · rw [hAh]
    intro h
    rw [hg, if_pos h, mv.gap]
    rcases hm.1 with q | q
    · exact absurd (by simpa using q) h
    · have e1 : (age1 k.Guess_).R = k.Guess_.R + max 0 (k.Guess_.V - 90) := rfl
      have e2 : (age1 k.Guess_).V = max 0 (k.Guess_.V - 90) := rfl
      clear hA hahead hpred hfirst
      have hs : saneM [k'.S, k'.V, c.Gap, (age1 k.Guess_).R, (age1 k.Guess_).V] = true := sane5 (by omega)
      exact (safeM_iff hs).1 q
  · rw [hUn]
    intro h
    rw [hw, if_pos (M.untl h), mv.gap]
    rcases hm.2 with q | q
    · exact absurd (by simpa using q) h
    · have e1 : (age1 k.WardGuess).R = k.WardGuess.R + max 0 (k.WardGuess.V - 90) := rfl
      have e2 : (age1 k.WardGuess).V = max 0 (k.WardGuess.V - 90) := rfl
      clear hA hahead hpred hfirst
      have hs : saneM [k'.S, k'.V, c.Gap, (age1 k.WardGuess).R, (age1 k.WardGuess).V] = true := sane5 (by omega)
      exact (safeM_iff hs).1 q
end
end Go.Abs.Convoy

namespace Go.Abs.Convoy
open Go Go.Abs

section
variable {G T : Int} {c : Convoy}
/-! ### The guest -/
theorem idAt_of (c : Convoy) (i : Int) : (idAt c i = 0 ∧ ∀ k : Nat, i = (k : Int) → c.Mates[k]? = none) ∨ ∃ (k : Nat) (m : Mate), i = (k : Int) ∧ c.Mates[k]? = some m ∧ idAt c i = m.ID := by
  unfold idAt
  split
  · rename_i h
    obtain ⟨k, rfl⟩ : ∃ k : Nat, i = (k : Int) := ⟨i.toNat, (Int.toNat_of_nonneg h).symm⟩
    rw [Int.toNat_natCast]
    cases hk : c.Mates[k]? with
    | none =>
      refine .inl ⟨rfl, fun j hj => ?_⟩
      have : j = k := by omega
      rw [this]; exact hk
    | some m => exact .inr ⟨k, m, rfl, hk, rfl⟩
  · exact .inl ⟨rfl, fun k hk => by omega⟩
/-- The guest while it hears. -/
structure Hears (G T : Int) (c : Convoy) (g : Guest) : Prop where
  gi : GuestI G T c g
  front : g.Ahead = 0 ∨ g.Ahead = idAt c (besM c).1
theorem near_inv (I : Inv G T c) {g : Guest} (H : Hears G T c g) {x : Guess} (hx : GB x) (hf : idAt c (besM c).1 ≠ 0) (hL : ∀ (k : Nat) km, (besM c).1 = (k : Int) → c.Mates[k]? = some km → Lower x ⟨km.S - km.Len, km.V⟩) : Hears G T c (nearM g (idAt c (besM c).1) x) := by
  obtain ⟨M, F⟩ := H
  rcases idAt_of c (besM c).1 with ⟨e, _⟩ | ⟨k, km, e1, e2, e3⟩
  · exact absurd e hf
  have L := hL k km e1 e2
  have hg : GB (if g.Ahead ≠ 0 then betterM g.Guess_ x else x) := by split; exact better_GB M.gs hx; exact hx
  refine ⟨⟨M.id, M.gid, M.new, M.s, M.v, M.len, M.stops, M.fin, hg, fun _ => ⟨k, km, e2, e3.symm, ?_⟩, M.from_, M.ub, M.fromU, M.grant, M.now⟩, .inr rfl⟩
  show Lower (if g.Ahead ≠ 0 then betterM g.Guess_ x else x) _
  split
  · rename_i h
    refine better_low M.gs hx ?_ L
    obtain ⟨j, kj, a1, a2, a3⟩ := M.ahead h
    have : kj.ID = km.ID := by
      rcases F with q | q
      · exact absurd q h
      · rw [a2, q, e3]
    obtain rfl := I.dist j k kj km a1 e2 this
    rw [e2] at a1; cases a1; exact a3
  · exact L
theorem learn_inv (I : Inv G T c) (hg : c.Guest_.ID = G) {g : Guest} (H : Hears G T c g) {n : Note} (N : NoteI G T c n) : Hears G T c (learnM (idAt c (besM c).1) (idAt c (besM c).2) c.Tick g n) := by
  unfold learnM
  split
  · rename_i hc
    obtain ⟨ga, ba⟩ := note_guess I N hc
    split
    · rename_i h
      refine near_inv I H ga h.2.1 fun k km e1 e2 => ?_
      rcases idAt_of c (besM c).1 with ⟨e, _⟩ | ⟨k', km', q1, q2, q3⟩
      · exact absurd e h.2.1
      · obtain rfl : k = k' := by omega
        rw [e2] at q2; cases q2
        exact I.bel ba (.mate k km e2 (by rw [h.2.2, q3]))
    · split
      · rename_i h
        obtain ⟨M, F⟩ := H
        obtain ⟨n1, n2, n3⟩ := N.grant h.1
        rcases idAt_of c (besM c).2 with ⟨e, _⟩ | ⟨k', km', q1, q2, q3⟩
        · exact absurd e h.2.2.1
        · have K := I.mates k' km' q2
          refine ⟨⟨M.id, M.gid, M.new, M.s, M.v, M.len, M.stops, M.fin, M.gs, M.ahead, by have := K.id; dsimp only; omega, ⟨by dsimp only; omega, n2.2⟩, fun _ => n2.1, fun _ hu => ?_, M.now⟩, F⟩
          obtain ⟨j, km, a1, a2, a3, a4⟩ := n3 hg hu
          exact ⟨j, km, a1, a2.trans h.2.2.2.1, a3, a4⟩
      · exact H
  · exact H
theorem learns_inv (I : Inv G T c) (hg : c.Guest_.ID = G) {notes : List Note} {sights : List Sight} (hn : ∀ n ∈ notes, NoteI G T c n) (hs : ∀ x ∈ sights, SightI G c x) : Hears G T c (learnsM c notes sights) := by
  have gi := I.noG (by rw [hg]; exact I.gpos)
  have H0 : Hears G T c (if c.Guest_.Ahead ≠ idAt c (besM c).1 then { c.Guest_ with Ahead := 0, Guess_ := ⟨0, 0⟩ } else c.Guest_) := by
    split
    · exact ⟨⟨gi.id, gi.gid, gi.new, gi.s, gi.v, gi.len, gi.stops, gi.fin, by unfold GB; dsimp only; omega, fun h => absurd rfl h, gi.from_, gi.ub, gi.fromU, gi.grant, gi.now⟩, .inl rfl⟩
    · rename_i h; exact ⟨gi, .inr (by simpa using h)⟩
  have key : ∀ (l : List Note), (∀ n ∈ l, NoteI G T c n) → ∀ g, Hears G T c g → Hears G T c (l.foldl (learnM (idAt c (besM c).1) (idAt c (besM c).2) c.Tick) g) := by
    intro l
    induction l with
    | nil => exact fun _ g h => h
    | cons n r ih => exact fun h g hg' => ih (fun n hn => h n (List.mem_cons_of_mem _ hn)) _ (learn_inv I hg hg' (h n List.mem_cons_self))
  have H1 := key notes hn _ H0
  unfold learnsM
  dsimp only
  generalize (notes.foldl (learnM (idAt c (besM c).1) (idAt c (besM c).2) c.Tick) (if c.Guest_.Ahead ≠ idAt c (besM c).1 then { c.Guest_ with Ahead := 0, Guess_ := ⟨0, 0⟩ } else c.Guest_)) = g at H1
  cases hx : sightM sights g.ID with
  | none => exact H1
  | some x =>
    obtain ⟨h1, h2, h3⟩ := sight_of hx
    dsimp only
    split
    · rename_i hf
      refine near_inv I H1 h3 hf ((hs x h1).guest (by rw [hg]; exact I.gpos) ?_)
      rw [hg, h2, H1.gi.id]
    · exact H1
/-- The guest as a mate. -/
theorem new_inv (I : Inv G T c) {g : Guest} (H : Hears G T c g) (hm : mergeM c g = true) {p : Nat} (hp : ((besM c).1 + 1).toNat = p) : MateI G T c p (newMate g) := by
  obtain ⟨M, F⟩ := H
  have e := I.tick
  have gp := I.gap
  unfold mergeM at hm
  simp only [Bool.and_eq_true, Bool.or_eq_true, beq_iff_eq, decide_eq_true_eq] at hm
  have hb := (besM_lt c).2.1
  have hA : g.Ahead ≠ 0 → ∃ km, 0 < p ∧ c.Mates[p - 1]? = some km ∧ km.ID = g.Ahead ∧ Lower g.Guess_ ⟨km.S - km.Len, km.V⟩ ∧ Lower ⟨g.S + c.Gap, g.V⟩ g.Guess_ := by
    intro h
    obtain ⟨j, kj, a1, a2, a3⟩ := M.ahead h
    rcases F with q | q
    · exact absurd q h
    rcases idAt_of c (besM c).1 with ⟨z, _⟩ | ⟨k, km, e1, e2, e3⟩
    · exact absurd (q.trans z) h
    obtain rfl := I.dist j k kj km a1 e2 (by rw [a2, q, e3])
    rw [e2] at a1; cases a1
    have hk : p - 1 = j := by omega
    refine ⟨_, by omega, by rw [hk]; exact e2, a2, a3, ?_⟩
    rcases hm.1 with z | ⟨_, z⟩
    · exact absurd (q.trans z) h
    · have s := M.s; have v := M.v; have b := M.gs.num
      exact (safeM_iff (sane5 (by omega))).1 z
  have hid := M.id
  have hgid := M.gid
  refine ⟨by show 1 ≤ g.ID ∧ g.ID ≤ 99; omega, M.s, M.v, M.len, M.gs, by show GB ⟨0, 0⟩; unfold GB; dsimp only; omega, fun h => ?_, fun h => absurd rfl h, fun h => absurd rfl h, ⟨Int.le_refl _, by show (0 : Int) ≤ _; omega⟩, fun h => ?_, fun h => absurd rfl h, fun k h hk => ?_, fun h => ?_⟩
  · obtain ⟨km, h1, h2, h3, h4, _⟩ := hA h
    exact ⟨p - 1, km, by omega, h2, h3, h4⟩
  · obtain ⟨km, h1, h2, h3, _, h4⟩ := hA h
    exact h4
  · left
    clear hA
    rcases idAt_of c (besM c).1 with ⟨z, z'⟩ | ⟨j, km, e1, e2, e3⟩
    · have := z' (p - 1) (by omega)
      rw [hk] at this; cases this
    · obtain rfl : p - 1 = j := by omega
      rw [hk] at e2; cases e2
      have K := I.mates _ k hk
      rcases hm.1 with z | ⟨z, _⟩
      · have := K.id; omega
      · exact (z.trans e3).symm
  · show g.Ahead = 0
    clear hA
    rcases F with q | q
    · exact q
    rcases idAt_of c (besM c).1 with ⟨z, z'⟩ | ⟨j, km, e1, e2, e3⟩
    · exact q.trans z
    · omega
theorem roll_ok {g : Guest} {want : Int} (hv : 0 ≤ g.V ∧ g.V ≤ 2000) (hs : g.S + stopM g.V < g.End) :
    (rollM g want).S = g.S + (rollM g want).V ∧ (max 0 (g.V - 90) ≤ (rollM g want).V ∧ (rollM g want).V ≤ 2000) ∧ (rollM g want).S + stopM (rollM g want).V < g.End := by
  have h := great_ok (fun a => decide (g.S + speedM g.V a + stopM (speedM g.V a) < g.End)) want
  refine ⟨rfl, ⟨speed_low hv h.1.1, (speed_bd _ _).2⟩, ?_⟩
  have := h.2 (by
    rw [speed_brake hv, decide_eq_true_eq]
    have := stopM_next hv.1 (show g.V ≤ 1000000 by omega)
    omega)
  rw [decide_eq_true_eq] at this
  exact this

/-! ### A step -/
theorem drove_mates (notes : List Note) (sights : List Sight) (wants : List Int) {i : Nat} {m : Mate} (hm : c.Mates[i]? = some m) : (matesM c wants notes sights)[i]? = some (driveM c.Gap (believeM c notes sights m) (wantsM wants i)) := by
  unfold matesM
  rw [List.getElem?_mapIdx, hm]; rfl
theorem len_mates (notes : List Note) (sights : List Sight) (wants : List Int) : (matesM c wants notes sights).length = c.Mates.length := List.length_mapIdx
theorem of_mates {notes : List Note} {sights : List Sight} {wants : List Int} {i : Nat} {k : Mate} (h : (matesM c wants notes sights)[i]? = some k) : ∃ m, c.Mates[i]? = some m ∧ k = driveM c.Gap (believeM c notes sights m) (wantsM wants i) := by
  have hlt := get_lt h
  rw [len_mates] at hlt
  have e := drove_mates (c := c) notes sights wants (List.getElem?_eq_getElem hlt)
  rw [h] at e
  exact ⟨_, List.getElem?_eq_getElem hlt, Option.some.inj e⟩
/-- What the notes and the sights of a step are. -/
structure Told (G T : Int) (c : Convoy) (notes : List Note) (sights : List Sight) : Prop where
  kind1 : ∀ (i : Nat) m, c.Mates[i]? = some m → ∀ n ∈ notes, Kind1 G T c i m (sightM sights m.ID) n
  notes : c.Guest_.ID = G → ∀ n ∈ notes, NoteI G T c n
  sights : ∀ x ∈ sights, SightI G c x
section
variable {notes : List Note} {sights : List Sight} {wants : List Int}
theorem mate_step (I : Inv G T c) (t : Told G T c notes sights) {i : Nat} {m : Mate} (hm : c.Mates[i]? = some m) : MateI G T c i (believeM c notes sights m) ∧ Same4 m (believeM c notes sights m) ∧ Drove m (driveM c.Gap (believeM c notes sights m) (wantsM wants i)) := by
  obtain ⟨h1, h2⟩ := believe_inv I hm (t.kind1 i m hm) t.sights
  refine ⟨h1, h2, ?_⟩
  have d := drive_drove h1.v c.Gap (wantsM wants i)
  exact ⟨d.id.trans h2.id, d.len.trans h2.len, by rw [d.s, h2.s], by rw [← h2.v]; exact d.v⟩
/-- No one merges. -/
theorem step_plain (I : Inv G T c) (t : Told G T c notes sights) {g : Guest} {T' : Int} (hT : T' ≤ T ∨ c.Guest_.ID = G) (ht : c.Tick + 1 ≤ 1000)
    (hg : (c.Guest_ = G0 ∧ g = G0) ∨ (c.Guest_.ID = G ∧ ∃ k w, Hears G T c k ∧ T' = c.Tick + 1 ∧ g = rollM k w ∧ k.S = c.Guest_.S ∧ k.V = c.Guest_.V ∧ k.Len = c.Guest_.Len)) :
    Inv G T' ⟨c.Tick + 1, c.Gap, matesM c wants notes sights, g⟩ ∧ Moves c ⟨c.Tick + 1, c.Gap, matesM c wants notes sights, g⟩ := by
  have hgid : g.ID = c.Guest_.ID := by
    rcases hg with ⟨a, b⟩ | ⟨a, k, w, H, _, b, _⟩
    · rw [a, b]
    · rw [b, a]; exact H.gi.id
  have mv : Moves c ⟨c.Tick + 1, c.Gap, matesM c wants notes sights, g⟩ := by
    refine ⟨rfl, rfl, fun id r v hb => ?_⟩
    cases hb with
    | mate i m hm hid =>
      obtain ⟨_, _, d⟩ := mate_step (wants := wants) I t hm
      refine ⟨_, d.v, ?_⟩
      have := Body.mate (c := ⟨c.Tick + 1, c.Gap, matesM c wants notes sights, g⟩) i _ (drove_mates notes sights wants hm) (d.id.trans hid)
      rw [d.s, d.len] at this
      rwa [show m.S - m.Len + (driveM c.Gap (believeM c notes sights m) (wantsM wants i)).V = m.S + (driveM c.Gap (believeM c notes sights m) (wantsM wants i)).V - m.Len by omega]
    | guest h h0 =>
      rcases hg with ⟨a, b⟩ | ⟨a, k, w, H, _, b, e1, e2, e3⟩
      · rw [a] at h; exact absurd h.symm h0
      · obtain ⟨r1, r2, r3⟩ := roll_ok (want := w) H.gi.v H.gi.stops
        refine ⟨g.V, by rw [b, ← e2]; exact r2, ?_⟩
        have := Body.guest (c := ⟨c.Tick + 1, c.Gap, matesM c wants notes sights, g⟩) (hgid.trans h) h0
        dsimp only at this
        rw [b] at this ⊢
        rw [r1, e1, show (rollM k w).Len = c.Guest_.Len from e3] at this
        rwa [show c.Guest_.S - c.Guest_.Len + (rollM k w).V = c.Guest_.S + (rollM k w).V - c.Guest_.Len by omega]
  refine ⟨⟨by have := I.tick; dsimp only; omega, I.gap, I.gpos, by dsimp only; rw [len_mates]; exact I.one, by dsimp only; rw [len_mates, hgid]; exact I.many, fun i k hk => ?_, fun i j a b ha hb hab => ?_, ?_⟩, mv⟩
  · obtain ⟨m, hm, rfl⟩ := of_mates hk
    obtain ⟨h1, h2, h3⟩ := mate_step (wants := wants) I t hm
    refine drive_inv I h1 _ mv I.tick.2 (fun j km hj hkm => ⟨j, _, hj, drove_mates notes sights wants hkm, (mate_step (wants := wants) I t hkm).2.2⟩) (fun k' hi hk' => ?_) h1.first
    obtain ⟨m', hm', rfl⟩ := of_mates hk'
    rw [(mate_step (wants := wants) I t hm').2.2.id]
    rcases h1.pred m' hi hm' with e | ⟨e1, e2, e3⟩
    · exact .inl e
    · rcases hT with q | q
      · exact .inr ⟨e1, e2, by omega⟩
      · have gi := I.noG (by rw [q]; exact I.gpos)
        exact absurd (e1.trans (h1.ward (h1.untl e2)).1) (gi.new _ m' hm')
  · obtain ⟨m, hm, rfl⟩ := of_mates ha
    obtain ⟨m', hm', rfl⟩ := of_mates hb
    rw [(mate_step (wants := wants) I t hm).2.2.id, (mate_step (wants := wants) I t hm').2.2.id] at hab
    exact I.dist i j m m' hm hm' hab
  · rcases hg with ⟨a, b⟩ | ⟨a, k, w, H, eT, b, e1, e2, e3⟩
    · exact .inl b
    · right
      have M := H.gi
      obtain ⟨r1, r2, r3⟩ := roll_ok (want := w) M.v M.stops
      have tk := I.tick
      have hs := M.s
      have hv := M.v
      have hgg : g.Guess_ = if k.Ahead ≠ 0 then age1 k.Guess_ else k.Guess_ := by rw [b, ← age1_of M.gs]; rfl
      have hA : k.Ahead ≠ 0 → ∃ (j : Nat) (km : Mate), (matesM c wants notes sights)[j]? = some km ∧ km.ID = k.Ahead ∧ Lower (age1 k.Guess_) ⟨km.S - km.Len, km.V⟩ ∧ km.S - km.Len ≤ 17000000 + 2000 * c.Tick + 2000 := by
        intro h
        obtain ⟨j, km, a1, a2, a3⟩ := M.ahead h
        obtain ⟨h1, h2, h3⟩ := mate_step (wants := wants) I t a1
        have K := I.mates j km a1
        refine ⟨j, _, drove_mates notes sights wants a1, h3.id.trans a2, ?_, ?_⟩
        · rw [h3.s, h3.len, show km.S + (driveM c.Gap (believeM c notes sights km) (wantsM wants j)).V - km.Len = km.S - km.Len + (driveM c.Gap (believeM c notes sights km) (wantsM wants j)).V by omega]
          exact age_move M.gs.2 K.v h3.v a3
        · have := K.s; have := K.len; have := h3.v; rw [h3.s, h3.len]; omega
      refine ⟨hgid.trans a, M.gid, fun i x hx => ?_, ?_, ?_, by rw [b]; exact M.len, by rw [b]; exact r3, by rw [b]; exact M.fin, ?_, fun h => ?_, by rw [b]; exact M.from_, ?_, fun h => ?_, fun h hu => ?_, eT⟩
      · obtain ⟨m, hm, rfl⟩ := of_mates hx
        rw [(mate_step (wants := wants) I t hm).2.2.id]
        exact M.new i m hm
      · rw [b]; dsimp only; omega
      · rw [b]; dsimp only; omega
      · rw [hgg]
        split
        · rename_i h
          obtain ⟨_, _, _, _, L, q⟩ := hA h
          have l1 := L.1
          have := age1_V M.gs.2
          have M' := M.gs
          unfold GB at M' ⊢
          unfold age1 at l1 ⊢
          dsimp only at l1 ⊢
          omega
        · exact M.gs
      · have h : k.Ahead ≠ 0 := by rw [b] at h; exact h
        obtain ⟨j, km, q1, q2, q3, _⟩ := hA h
        refine ⟨j, km, q1, by rw [b]; exact q2, ?_⟩
        rw [hgg, if_pos h]; exact q3
      · have := M.ub
        rw [b]
        exact ⟨M.ub.1, by show k.Until ≤ _; dsimp only; omega⟩
      · rw [b] at h ⊢; exact M.fromU h
      · rw [b] at h hu ⊢
        have h : k.From ≠ 0 := h
        have hu : c.Tick + 1 ≤ k.Until := hu
        obtain ⟨j, km, q1, q2, q3, q4⟩ := M.grant h (by omega)
        obtain ⟨h1, h2, h3⟩ := mate_step (wants := wants) I t q1
        obtain ⟨w1, w2⟩ := believe_holds (sights := sights) I (t.notes a) (show Holds G k.Until km from ⟨q3, q4⟩) (M.fromU h) (by omega) a
        exact ⟨j, _, drove_mates notes sights wants q1, h3.id.trans q2, w1, w2⟩
/-- The notes stay right. -/
theorem note_moves (I : Inv G T c) {d : Convoy} {T' : Int} (mv : Moves c d) (hT : T ≤ T') {n : Note} (N : NoteI G T c n)
    (hgr : d.Guest_.ID = G → c.Guest_.ID = G ∧ ∀ (k : Nat) km u, c.Mates[k]? = some km → Holds G u km → 0 < u → c.Tick ≤ u → ∃ (k' : Nat) (km' : Mate), d.Mates[k']? = some km' ∧ km'.ID = km.ID ∧ Holds G u km')
    (hdo : ∀ (i : Nat) k m, c.Mates[i]? = some k → k.ID = G → c.Mates[i + 1]? = some m → ∃ (j : Nat) (k' m' : Mate), d.Mates[j]? = some k' ∧ k'.ID = G ∧ d.Mates[j + 1]? = some m' ∧ m'.ID = m.ID) : NoteI G T' d n := by
  have st := N.stamp
  have mt := mv.tick
  refine ⟨by omega, N.gb, ?_, fun h => ⟨(N.ask h).1, by have := (N.ask h).2; omega⟩, fun h => ?_, fun h hf => ?_⟩
  · have := bel_moves I mv (ageN_V (c.Tick - n.Stamp).toNat N.gb.2) N.bel
    rw [← ageN_succ'] at this
    rwa [show (d.Tick - n.Stamp).toNat = (c.Tick - n.Stamp).toNat + 1 by omega]
  · obtain ⟨h1, h2, h3⟩ := N.grant h
    refine ⟨h1, by omega, fun hd hu => ?_⟩
    obtain ⟨e, q⟩ := hgr hd
    obtain ⟨k, km, a1, a2, a3, a4⟩ := h3 e (by omega)
    obtain ⟨k', km', b1, b2, b3, b4⟩ := q k km n.Until a1 ⟨a3, a4⟩ h2.1 (by omega)
    exact ⟨k', km', b1, b2.trans a2, b3, b4⟩
  · obtain ⟨i, k, m, a1, a2, a3, a4⟩ := N.done h hf
    obtain ⟨j, k', m', b1, b2, b3, b4⟩ := hdo i k m a1 a2 a3
    exact ⟨j, k', m', b1, b2, b3, b4.trans a4⟩
end
end
end Go.Abs.Convoy

namespace Go.Abs.Convoy
open Go Go.Abs

section
variable {G T : Int} {c : Convoy}
theorem find_uniq (I : Inv G T c) {k : Nat} {m : Mate} (h : c.Mates[k]? = some m) : c.Mates.findIdx? (idP m.ID) = some k := by
  cases hf : c.Mates.findIdx? (idP m.ID) with
  | none =>
    have := List.findIdx?_eq_none_iff.1 hf m (List.mem_of_getElem? h)
    simp [idP] at this
  | some j =>
    obtain ⟨m', h1, h2⟩ := find_get hf
    rw [I.dist j k m' m h1 h h2]
theorem ward_id (I : Inv G T c) {g : Guess} (h : Bel c G g) : 1 ≤ G ∧ G ≤ 99 := by
  obtain ⟨r, v, hb, _⟩ := h
  cases hb with
  | mate i m hm hid => have := (I.mates i m hm).id; omega
  | guest h h0 => exact (I.noG (by rw [h]; exact h0)).gid
theorem inv_mate (I : Inv G T c) {i : Nat} {m : Mate} (h : c.Mates[i]? = some m) : mateM m = true := by
  have M := I.mates i m h
  have tk := I.tick
  have a1 := M.id; have a2 := M.s; have a3 := M.v; have a4 := M.len; have a5 := M.g; have a6 := M.w; have a7 := M.ub
  have b1 : 0 ≤ m.Ahead ∧ m.Ahead ≤ 99 := by
    by_cases z : m.Ahead = 0
    · omega
    · obtain ⟨k, km, _, h2, h3, _⟩ := M.ahead z
      have := (I.mates k km h2).id
      omega
  have b2 : 0 ≤ m.Ward ∧ m.Ward ≤ 99 := by
    by_cases z : m.Ward = 0
    · omega
    · obtain ⟨e, b⟩ := M.ward z
      have := ward_id I b
      omega
  unfold GB at a5 a6
  unfold mateM bodyM guessM
  simp only [Bool.and_eq_true, within_iff]
  omega
theorem inv_guest (I : Inv G T c) : (noGuest c.Guest_ || guestM c.Guest_) = true := by
  rcases I.guest with e | M
  · rw [e]; rfl
  · have tk := I.tick
    have a0 := M.id; have a1 := M.gid; have a2 := M.s; have a3 := M.v; have a4 := M.len; have a5 := M.gs; have a6 := M.from_; have a7 := M.ub; have a8 := M.stops; have a9 := M.fin
    have a10 := (stopM_nonneg c.Guest_.V).1
    have b1 : 0 ≤ c.Guest_.Ahead ∧ c.Guest_.Ahead ≤ 99 := by
      by_cases z : c.Guest_.Ahead = 0
      · omega
      · obtain ⟨k, km, h2, h3, _⟩ := M.ahead z
        have := (I.mates k km h2).id
        omega
    unfold GB at a5
    rw [Bool.or_eq_true]
    right
    unfold guestM bodyM guessM
    simp only [Bool.and_eq_true, within_iff]
    omega
theorem inv_chk (I : Inv G T c) : chkM c = 0 := by
  have tk := I.tick
  have gp := I.gap
  have one := I.one
  have many := I.many
  have n0 : numM c = 0 := by
    unfold numM
    rw [within_of tk.1 (show c.Tick ≤ 1099511627776 by omega), within_of gp.1 gp.2, if_neg (by decide), if_neg (by omega), if_neg ?_, inv_guest I]
    · rw [show (c.Mates.any fun m => !mateM m) = false from ?_]
      · rfl
      · rw [List.any_eq_false]
        intro m hm
        obtain ⟨i, hi⟩ := List.mem_iff_getElem?.1 hm
        simp [inv_mate I hi]
    · rcases I.guest with e | M
      · rw [e, show noGuest G0 = true from rfl, if_pos rfl]
        rw [e] at many
        omega
      · have : c.Guest_.ID ≠ 0 := by rw [M.id]; exact I.gpos
        rw [if_neg this] at many
        split <;> omega
  have d0 : anyI (dupP c) 0 c.Mates = false := by
    refine anyI_false fun j m hm => ?_
    unfold dupP
    rw [Nat.zero_add, Bool.or_eq_false_iff, List.any_eq_false]
    refine ⟨fun x hx => ?_, ?_⟩
    · obtain ⟨q, hq⟩ := List.mem_iff_getElem?.1 hx
      have q1 := get_lt hq
      rw [List.length_take] at q1
      rw [List.getElem?_take, if_pos (by omega)] at hq
      intro e
      have := I.dist q j x m hq hm (by simpa using e)
      omega
    · rcases I.guest with e | M
      · rw [e]
        have := (I.mates j m hm).id
        simp only [G0, beq_eq_false_iff_ne, ne_eq]; omega
      · rw [M.id]
        simpa using M.new j m hm
  have o0 : anyI (ordP c) 0 c.Mates = false := by
    refine anyI_false fun j m hm => ?_
    unfold ordP
    rw [Nat.zero_add]
    by_cases z : 0 < j
    · have hlt := get_lt hm
      obtain ⟨k, hk⟩ : ∃ k, c.Mates[j - 1]? = some k := ⟨_, List.getElem?_eq_getElem (by omega)⟩
      have L := (pred_lower I hm z hk).1
      have K := I.mates _ k hk
      have k1 := K.s; have k2 := K.len
      rw [hk, show decide (0 < j) = true from decide_eq_true z, Bool.true_and]
      dsimp only at L ⊢
      rw [w64_id (by omega)]
      exact decide_eq_false (by omega)
    · rw [show decide (0 < j) = false from decide_eq_false z]; rfl
  have s0 : anyI staP 0 c.Mates = false := by
    refine anyI_false fun j m hm => ?_
    have M := I.mates j m hm
    unfold staP
    rw [Nat.zero_add, Bool.or_eq_false_iff, Bool.or_eq_false_iff]
    refine ⟨⟨?_, ?_⟩, ?_⟩
    · by_cases z : j = 0
      · rw [M.first z]; simp
      · simp [z]
    · by_cases z : 0 < j
      · have hlt := get_lt hm
        obtain ⟨k, hk⟩ : ∃ k, c.Mates[j - 1]? = some k := ⟨_, List.getElem?_eq_getElem (by omega)⟩
        rcases M.pred k z hk with e | ⟨_, e, _⟩
        · have := (I.mates _ k hk).id
          have : m.Ahead ≠ 0 := by omega
          simp [this]
        · simp [e]
      · simp [z]
    · by_cases z : m.Until = 0
      · simp [z]
      · have := M.untl z
        simp [this]
  have c0 : c.Mates.any (clashP c) = false := by
    rw [List.any_eq_false]
    intro m hm
    obtain ⟨i, hi⟩ := List.mem_iff_getElem?.1 hm
    have M := I.mates i m hi
    have a2 := M.s; have a3 := M.v; have a5 := M.g.num; have a6 := M.w.num
    unfold clashP keepM
    have h1 : (m.Ahead == 0 || safeM m.S m.V c.Gap m.Guess_) = true := by
      by_cases z : m.Ahead = 0
      · simp [z]
      · rw [(safeM_iff (sane5 (by omega))).2 (M.sA z), Bool.or_true]
    have h2 : (m.Until == 0 || safeM m.S m.V c.Gap m.WardGuess) = true := by
      by_cases z : m.Until = 0
      · simp [z]
      · rw [(safeM_iff (sane5 (by omega))).2 (M.sW z), Bool.or_true]
    rw [h1, h2]; simp
  have g0 : guestBad c = false := by
    unfold guestBad
    rcases I.guest with e | M
    · rw [e]; rfl
    · have a2 := M.s; have a3 := M.v; have a8 := M.stops; have a9 := M.fin
      have a10 := stop2000 a3.2
      rw [w64_id (by omega), show decide (c.Guest_.End ≤ c.Guest_.S + stopM c.Guest_.V) = false from decide_eq_false (by omega), Bool.and_false]
  unfold chkM ordM
  rw [n0, d0, o0, s0, c0, g0]
  rfl
theorem below_of (I : Inv G T c) {g : Guess} (hg : GB g) {id r v : Int} (hb : Body c id r v) (L : Lower g ⟨r, v⟩) : belowM g (w64 r) v = true := by
  have tk := I.tick
  have b := I.bodyB hb
  have a := hg.num
  rw [w64_id (by omega)]
  exact (belowM_lower (sane4 (by omega))).2 L
theorem inv_sound (I : Inv G T c) : soundM c = true := by
  have hold : ∀ (k i : Nat) (km : Mate) (g : Guess), k < i → c.Mates[k]? = some km → GB g → Lower g ⟨km.S - km.Len, km.V⟩ → holdL c i km.ID g = true := by
    intro k i km g hk h hg L
    unfold holdL
    rw [find_uniq I h]
    dsimp only
    rw [decide_eq_true hk, h, Bool.true_and]
    exact below_of I hg (.mate k km h rfl) L
  have b0 : anyI (badM c) 0 c.Mates = false := by
    refine anyI_false fun i m hm => ?_
    have M := I.mates i m hm
    rw [Nat.zero_add]
    unfold badM
    have h1 : bad1 c i m = false := by
      unfold bad1
      by_cases z : m.Ahead = 0
      · simp [z]
      · obtain ⟨k, km, a1, a2, a3, a4⟩ := M.ahead z
        rw [← a3, hold k i km _ a1 a2 M.g a4]; simp
    have h2 : bad2 c i m = false := by
      unfold bad2
      by_cases z : m.Until = 0
      · simp [z]
      · obtain ⟨e, b⟩ := M.ward (M.untl z)
        unfold foundL
        cases hf : c.Mates.findIdx? (idP m.Ward) with
        | none => simp
        | some k =>
          obtain ⟨km, a1, a2⟩ := find_get hf
          by_cases hk : k < i
          · have := hold k i km m.WardGuess hk a1 M.w (I.bel b (.mate k km a1 (a2.trans e)))
            rw [a2] at this
            rw [this]; simp
          · simp [hk]
    have h3 : bad3 c i m = false := by
      unfold bad3
      by_cases z : m.Until = 0
      · simp [z]
      · obtain ⟨e, b⟩ := M.ward (M.untl z)
        by_cases hw : m.Ward = c.Guest_.ID
        · have hb : Body c G (c.Guest_.S - c.Guest_.Len) c.Guest_.V := .guest (hw.symm.trans e) I.gpos
          rw [below_of I M.w hb (I.bel b hb)]; simp
        · simp [hw]
    have h4 : bad4 c i m = false := by
      unfold bad4 prevL
      by_cases z : 0 < i
      · have hlt := get_lt hm
        obtain ⟨k, hk⟩ : ∃ k, c.Mates[i - 1]? = some k := ⟨_, List.getElem?_eq_getElem (by omega)⟩
        rw [if_pos z, hk]
        dsimp only
        rcases M.pred k z hk with e | ⟨e, u, _⟩
        · simp [e]
        · simp [e, u]
      · rw [if_neg z]
    rw [h1, h2, h3, h4]; rfl
  unfold soundM
  rw [inv_chk I, b0]
  simp only [beq_self_eq_true, Bool.not_false, Bool.true_and, Bool.or_eq_true, beq_iff_eq]
  by_cases z : c.Guest_.Ahead = 0
  · exact .inl z
  · right
    rcases I.guest with e | M
    · rw [e] at z; exact absurd rfl z
    · obtain ⟨k, km, a1, a2, a3⟩ := M.ahead z
      rw [← a2]
      exact hold k _ km _ (get_lt a1) a1 M.gs a3
theorem kept_eq (I : Inv G T c) : law09_kept c = some true := by
  have hl : c.Mates.length ≤ 8 := by have := I.many; omega
  have tk := I.tick
  unfold law09_kept
  rw [convoy_Sound_eq c (by omega), Option.bind_some, inv_sound I]
  have key : ∀ (r : List Mate) (i : Nat), c.Mates.drop i = r → 0 < i → loop (law09_kept_l1 c) (i : Int) = some (.inl ()) := by
    intro r
    induction r with
    | nil =>
      intro i hi _
      have := drop_nil hi
      refine loop_out ?_
      unfold law09_kept_l1
      rw [show decide ((i : Int) < (c.Mates.length : Int)) = false from decide_eq_false (by omega)]
      rfl
    | cons m r ih =>
      intro i hi h0
      have hlt := drop_lt hi
      have hm : c.Mates[i]? = some m := by have := congrArg (fun z => z[0]?) hi; simpa using this
      obtain ⟨k, g1, g2⟩ := prev_at (by omega) hm h0
      have L := (pred_lower I hm h0 g2).1
      have K := I.mates _ k g2
      have M := I.mates _ m hm
      have k1 := K.s; have k2 := K.len; have m1 := M.s
      have hs : law09_kept_l1 c (i : Int) = some (.go ((i + 1 : Nat) : Int)) := by
        unfold law09_kept_l1
        rw [show decide ((i : Int) < (c.Mates.length : Int)) = true from decide_eq_true (by omega), g1, geti_drop hi]
        simp only [cond_true, Option.bind_some]
        dsimp only at L
        rw [w64_id (n := k.S - k.Len) (by omega), w64_id (n := k.S - k.Len - m.S) (by omega), w64_id (n := (i : Int) + 1) (by omega), show decide (k.S - k.Len - m.S < c.Gap) = false from decide_eq_false (by omega)]
        rfl
      rw [loop_go hs]
      exact ih (i + 1) (drop_succ hi) (by omega)
  have := key _ 1 rfl (by omega)
  rw [show ((1 : Nat) : Int) = 1 from rfl] at this
  simp only [Bool.not_true, cond_false]
  rw [this]; rfl
end
end Go.Abs.Convoy

namespace Go.Abs.Convoy
open Go Go.Abs

theorem ins_get {α : Type} {l : List α} {p : Nat} (a : α) (hp : p ≤ l.length) (j : Nat) : (l.take p ++ a :: l.drop p)[j]? = if j < p then l[j]? else if j = p then some a else l[j - 1]? := by
  have hl : (l.take p).length = p := by rw [List.length_take]; omega
  by_cases h : j < p
  · rw [if_pos h, List.getElem?_append_left (by rw [hl]; exact h), List.getElem?_take, if_pos h]
  · rw [if_neg h, List.getElem?_append_right (by rw [hl]; omega), hl]
    by_cases h2 : j = p
    · rw [if_pos h2, h2, Nat.sub_self]; rfl
    · rw [if_neg h2]
      obtain ⟨q, rfl⟩ : ∃ q, j = p + 1 + q := ⟨j - p - 1, by omega⟩
      rw [show p + 1 + q - p = q + 1 by omega, List.getElem?_cons_succ, List.getElem?_drop]
      congr 1; omega
section
variable {G T : Int} {c : Convoy} {notes : List Note} {sights : List Sight} {wants : List Int}
/-- The place where the guest merges, and who is behind it. -/
theorem merge_back (I : Inv G T c) {g : Guest} (H : Hears G T c g) (hm : mergeM c g = true) {i : Nat} {m : Mate} (hi : i = ((besM c).1 + 1).toNat) (h : c.Mates[i]? = some m) : 0 < g.Until ∧ c.Tick ≤ g.Until ∧ Holds G g.Until m := by
  have hlt := get_lt h
  have hb : (besM c).2 = (i : Int) := by
    unfold besM at hi ⊢
    cases hf : c.Mates.findIdx? (besP c) with
    | none => rw [hf] at hi; dsimp only at hi; omega
    | some q => rw [hf] at hi; dsimp only at hi ⊢; omega
  have hid : idAt c (besM c).2 = m.ID := by
    rw [hb]; unfold idAt
    rw [if_pos (by omega), Int.toNat_natCast, h]
  have hp := (I.mates i m h).id
  unfold mergeM at hm
  simp only [Bool.and_eq_true, Bool.or_eq_true, beq_iff_eq, decide_eq_true_eq] at hm
  rw [hid] at hm
  rcases hm.2 with z | ⟨z1, z2⟩
  · omega
  · have hF : g.From ≠ 0 := by omega
    obtain ⟨k, km, a1, a2, a3, a4⟩ := H.gi.grant hF z2
    obtain rfl := I.dist k i km m a1 h (a2.trans z1)
    rw [h] at a1; cases a1
    exact ⟨H.gi.fromU hF, z2, a3, a4⟩
theorem step_merge (I : Inv G T c) (t : Told G T c notes sights) (hg : c.Guest_.ID = G) {g : Guest} (H : Hears G T c g) (hgb : g.S = c.Guest_.S ∧ g.V = c.Guest_.V ∧ g.Len = c.Guest_.Len) (hm : mergeM c g = true) (ht : c.Tick + 1 ≤ 1000) (w : Int) {p : Nat} (hp : p = ((besM c).1 + 1).toNat) :
    Inv G T ⟨c.Tick + 1, c.Gap, (matesM c wants notes sights).take p ++ driveM c.Gap (newMate g) w :: (matesM c wants notes sights).drop p, G0⟩ ∧ Moves c ⟨c.Tick + 1, c.Gap, (matesM c wants notes sights).take p ++ driveM c.Gap (newMate g) w :: (matesM c wants notes sights).drop p, G0⟩ := by
  have gi := H.gi
  have hpl : p ≤ (matesM c wants notes sights).length := by
    have := (besM_lt c).1
    rw [len_mates]; omega
  have N := new_inv I H hm hp.symm
  have hk := drive_drove (m := newMate g) gi.v c.Gap w
  have hkid : (driveM c.Gap (newMate g) w).ID = G := gi.id
  generalize hd : (⟨c.Tick + 1, c.Gap, (matesM c wants notes sights).take p ++ driveM c.Gap (newMate g) w :: (matesM c wants notes sights).drop p, G0⟩ : Convoy) = d
  have hdm : ∀ j : Nat, d.Mates[j]? = if j < p then (matesM c wants notes sights)[j]? else if j = p then some (driveM c.Gap (newMate g) w) else (matesM c wants notes sights)[j - 1]? := fun j => by
    rw [← hd]; exact ins_get _ hpl j
  have hdt : d.Tick = c.Tick + 1 := by rw [← hd]
  have hdg : d.Gap = c.Gap := by rw [← hd]
  have hdgu : d.Guest_ = G0 := by rw [← hd]
  -- where an old mate goes
  have hold : ∀ (i : Nat) (m : Mate), c.Mates[i]? = some m → ∃ (j : Nat), ((i < p ∧ j = i) ∨ (p ≤ i ∧ j = i + 1)) ∧ d.Mates[j]? = some (driveM c.Gap (believeM c notes sights m) (wantsM wants i)) := by
    intro i m h
    by_cases hi : i < p
    · exact ⟨i, .inl ⟨hi, rfl⟩, by rw [hdm, if_pos hi]; exact drove_mates notes sights wants h⟩
    · exact ⟨i + 1, .inr ⟨by omega, rfl⟩, by rw [hdm, if_neg (by omega), if_neg (by omega), Nat.add_sub_cancel]; exact drove_mates notes sights wants h⟩
  -- what a new mate was
  have hnew : ∀ (j : Nat) (k : Mate), d.Mates[j]? = some k → (j = p ∧ k = driveM c.Gap (newMate g) w) ∨ ∃ (i : Nat) (m : Mate), ((i < p ∧ j = i) ∨ (p ≤ i ∧ j = i + 1)) ∧ c.Mates[i]? = some m ∧ k = driveM c.Gap (believeM c notes sights m) (wantsM wants i) := by
    intro j k h
    rw [hdm] at h
    split at h
    · obtain ⟨m, h1, h2⟩ := of_mates h
      exact .inr ⟨j, m, .inl ⟨by assumption, rfl⟩, h1, h2⟩
    · split at h
      · exact .inl ⟨by assumption, (Option.some.inj h).symm⟩
      · obtain ⟨m, h1, h2⟩ := of_mates h
        exact .inr ⟨j - 1, m, .inr ⟨by omega, by omega⟩, h1, h2⟩
  have mv : Moves c d := by
    refine ⟨hdt, hdg, fun id r v hb => ?_⟩
    cases hb with
    | mate i m h hid =>
      obtain ⟨_, _, dd⟩ := mate_step (wants := wants) I t h
      obtain ⟨j, _, hj⟩ := hold i m h
      refine ⟨_, dd.v, ?_⟩
      have := Body.mate (c := d) j _ hj (dd.id.trans hid)
      rw [dd.s, dd.len] at this
      rwa [show m.S - m.Len + (driveM c.Gap (believeM c notes sights m) (wantsM wants i)).V = m.S + (driveM c.Gap (believeM c notes sights m) (wantsM wants i)).V - m.Len by omega]
    | guest h h0 =>
      have hj : d.Mates[p]? = some (driveM c.Gap (newMate g) w) := by rw [hdm, if_neg (by omega), if_pos rfl]
      have hv : max 0 (c.Guest_.V - 90) ≤ (driveM c.Gap (newMate g) w).V ∧ (driveM c.Gap (newMate g) w).V ≤ 2000 := by
        have := hk.v
        rw [show (newMate g).V = c.Guest_.V from hgb.2.1] at this
        exact this
      refine ⟨_, hv, ?_⟩
      have := Body.mate (c := d) p _ hj (hkid.trans (hg.symm.trans h))
      rw [hk.s, hk.len, show (newMate g).S = c.Guest_.S from hgb.1, show (newMate g).Len = c.Guest_.Len from hgb.2.2] at this
      rwa [show c.Guest_.S - c.Guest_.Len + (driveM c.Gap (newMate g) w).V = c.Guest_.S + (driveM c.Gap (newMate g) w).V - c.Guest_.Len by omega]
  have hidm : ∀ (i : Nat) (m : Mate), c.Mates[i]? = some m → (driveM c.Gap (believeM c notes sights m) (wantsM wants i)).ID = m.ID := fun i m h => (mate_step (wants := wants) I t h).2.2.id
  refine ⟨⟨by have := I.tick; omega, by rw [hdg]; exact I.gap, I.gpos, ?_, ?_, fun j k hj => ?_, fun i j a b ha hb hab => ?_, .inl hdgu⟩, mv⟩
  · rw [← hd]; simp; omega
  · have := I.many
    rw [if_neg (by rw [hg]; exact I.gpos)] at this
    rw [hdgu, if_pos (by rfl), ← hd]
    simp only [List.length_append, List.length_take, List.length_cons, List.length_drop, len_mates] at hpl ⊢
    omega
  · rcases hnew j k hj with ⟨rfl, rfl⟩ | ⟨i, m, hij, hm0, rfl⟩
    · refine drive_inv I N w mv I.tick.2 (fun j' km hj' hkm => ?_) (fun k' h0 hk' => ?_) N.first
      · obtain ⟨q, hq, hq2⟩ := hold j' km hkm
        exact ⟨q, _, by omega, hq2, (mate_step (wants := wants) I t hkm).2.2⟩
      · rcases hnew _ _ hk' with ⟨z, _⟩ | ⟨i', m', hij', hm', rfl⟩
        · omega
        · left
          rw [hidm i' m' hm']
          have : i' = j - 1 := by omega
          subst this
          rcases N.pred m' h0 hm' with e | ⟨_, e, _⟩
          · exact e
          · exact absurd rfl e
    · obtain ⟨M, S4, D⟩ := mate_step (wants := wants) I t hm0
      refine drive_inv I M _ mv I.tick.2 (fun j' km hj' hkm => ?_) (fun k' h0 hk' => ?_) (fun h0 => ?_)
      · obtain ⟨q, hq, hq2⟩ := hold j' km hkm
        exact ⟨q, _, by omega, hq2, (mate_step (wants := wants) I t hkm).2.2⟩
      · rcases hnew _ _ hk' with ⟨z, rfl⟩ | ⟨i', m', hij', hm', rfl⟩
        · right
          obtain ⟨u1, u2, u3⟩ := merge_back I H hm (i := i) (by omega) hm0
          obtain ⟨w1, w2⟩ := believe_holds (sights := sights) I (t.notes hg) u3 u1 u2 hg
          refine ⟨hkid.trans w1.symm, by omega, ?_⟩
          rw [gi.now, w2]; exact u2
        · rw [hidm i' m' hm']
          have hi' : i' = i - 1 ∧ 0 < i := by omega
          rw [hi'.1] at hm'
          rcases M.pred m' hi'.2 hm' with e | ⟨e1, e2, _⟩
          · exact .inl e
          · exact absurd (e1.trans (M.ward (M.untl e2)).1) (gi.new _ m' hm')
      · exact M.first (by omega)
  · rcases hnew i a ha with ⟨rfl, rfl⟩ | ⟨i1, m1, h1, h2, rfl⟩
    · rcases hnew j b hb with ⟨rfl, rfl⟩ | ⟨j1, m2, h3, h4, rfl⟩
      · rfl
      · rw [hkid, hidm j1 m2 h4] at hab
        exact absurd hab.symm (gi.new j1 m2 h4)
    · rcases hnew j b hb with ⟨rfl, rfl⟩ | ⟨j1, m2, h3, h4, rfl⟩
      · rw [hkid, hidm i1 m1 h2] at hab
        exact absurd hab (gi.new i1 m1 h2)
      · rw [hidm i1 m1 h2, hidm j1 m2 h4] at hab
        have := I.dist i1 j1 m1 m2 h2 h4 hab
        omega

/-- What is true behind a step. -/
structure StepR (G T : Int) (c : Convoy) (wants : List Int) (notes : List Note) (sights : List Sight) (d : Convoy) (T' : Int) : Prop where
  inv : Inv G T' d
  mv : Moves c d
  keep : ∀ n, NoteI G T c n → NoteI G T' d n
  is : (c.Guest_ = G0 ∧ d = ⟨c.Tick + 1, c.Gap, matesM c wants notes sights, G0⟩) ∨
    (c.Guest_.ID = G ∧ Hears G T c (learnsM c notes sights) ∧ mergeM c (learnsM c notes sights) = false ∧ d = ⟨c.Tick + 1, c.Gap, matesM c wants notes sights, rollM (learnsM c notes sights) (wantsM wants c.Mates.length)⟩) ∨
    (c.Guest_.ID = G ∧ Hears G T c (learnsM c notes sights) ∧ mergeM c (learnsM c notes sights) = true ∧ d = ⟨c.Tick + 1, c.Gap, (matesM c wants notes sights).take ((besM c).1 + 1).toNat ++ driveM c.Gap (newMate (learnsM c notes sights)) (wantsM wants c.Mates.length) :: (matesM c wants notes sights).drop ((besM c).1 + 1).toNat, G0⟩)
theorem step_told (I : Inv G T c) (t : Told G T c notes sights) (ht : c.Tick + 1 ≤ 1000) (hn : notes.length ≤ 60) (hs : sights.length ≤ 60) : ∃ d T', stepM c wants notes sights = (d, 0) ∧ StepR G T c wants notes sights d T' := by
  have tk := I.tick
  have hfar : farM c = false := by
    unfold farM
    rw [Bool.or_eq_false_iff, List.any_eq_false]
    constructor
    · rcases I.guest with e | M
      · rw [e]; rfl
      · have := M.s
        exact decide_eq_false (by omega)
    · intro m hm
      obtain ⟨i, hi⟩ := List.mem_iff_getElem?.1 hm
      have := (I.mates i m hi).s
      simp only [decide_eq_true_eq]; omega
  unfold stepM
  rw [if_neg (by rw [inv_chk I]; decide), if_neg (by rw [hfar]; simp; omega)]
  dsimp only
  have keepP : ∀ (d : Convoy) (g : Guest) (T' : Int), Moves c d → T ≤ T' → d.Mates = matesM c wants notes sights → (d.Guest_.ID = G → c.Guest_.ID = G) → ∀ n, NoteI G T c n → NoteI G T' d n := by
    intro d g T' mv hT hdm hgg n N
    refine note_moves I mv hT N (fun h => ⟨hgg h, fun k km u h1 h2 h3 h4 => ?_⟩) (fun i k m h1 h2 h3 => ?_)
    · obtain ⟨w1, w2⟩ := believe_holds (sights := sights) I (t.notes (hgg h)) h2 h3 h4 (hgg h)
      exact ⟨k, _, by rw [hdm]; exact drove_mates notes sights wants h1, (mate_step (wants := wants) I t h1).2.2.id, w1, w2⟩
    · exact ⟨i, _, _, by rw [hdm]; exact drove_mates notes sights wants h1, (mate_step (wants := wants) I t h1).2.2.id.trans h2, by rw [hdm]; exact drove_mates notes sights wants h3, (mate_step (wants := wants) I t h3).2.2.id⟩
  by_cases hg : c.Guest_.ID = 0
  · have e : c.Guest_ = G0 := by
      rcases I.guest with e | M
      · exact e
      · exact absurd hg (by rw [M.id]; exact I.gpos)
    rw [if_pos hg]
    obtain ⟨h1, h2⟩ := step_plain (wants := wants) (T' := T) I t (.inl (Int.le_refl _)) ht (.inl ⟨e, rfl⟩)
    exact ⟨_, T, rfl, h1, h2, keepP _ G0 T h2 (Int.le_refl _) rfl (fun h => absurd h.symm I.gpos), .inl ⟨e, rfl⟩⟩
  · have gi := I.noG hg
    have hgG := gi.id
    have H := learns_inv I hgG (t.notes hgG) t.sights
    rw [if_neg hg]
    have hb : (learnsM c notes sights).S = c.Guest_.S ∧ (learnsM c notes sights).V = c.Guest_.V ∧ (learnsM c notes sights).Len = c.Guest_.Len := by
      have key : ∀ (a b t : Int) (l : List Note) (k : Guest), (k.S = c.Guest_.S ∧ k.V = c.Guest_.V ∧ k.Len = c.Guest_.Len) → ((l.foldl (learnM a b t) k).S = c.Guest_.S ∧ (l.foldl (learnM a b t) k).V = c.Guest_.V ∧ (l.foldl (learnM a b t) k).Len = c.Guest_.Len) := by
        intro a b t l
        induction l with
        | nil => exact fun _ h => h
        | cons n r ih =>
          intro k h
          rw [List.foldl_cons]
          refine ih _ ?_
          unfold learnM nearM
          split
          · split
            · exact h
            · split <;> exact h
          · exact h
      unfold learnsM
      dsimp only
      have h1 := key (idAt c (besM c).1) (idAt c (besM c).2) c.Tick notes (if c.Guest_.Ahead ≠ idAt c (besM c).1 then { c.Guest_ with Ahead := 0, Guess_ := ⟨0, 0⟩ } else c.Guest_) (by split <;> exact ⟨rfl, rfl, rfl⟩)
      generalize notes.foldl (learnM (idAt c (besM c).1) (idAt c (besM c).2) c.Tick) _ = k at h1
      cases sightM sights k.ID with
      | none => exact h1
      | some x =>
        dsimp only
        split
        · exact h1
        · exact h1
    by_cases hj : mergeM c (learnsM c notes sights) = true
    · rw [if_pos hj]
      obtain ⟨h1, h2⟩ := step_merge (wants := wants) I t hgG H hb hj ht (wantsM wants c.Mates.length) rfl
      refine ⟨_, T, rfl, h1, h2, fun n N => ?_, .inr (.inr ⟨hgG, H, hj, rfl⟩)⟩
      exact note_moves I h2 (Int.le_refl _) N (fun h => absurd h.symm I.gpos) (fun i k m q1 q2 _ => absurd q2 (gi.new i k q1))
    · rw [if_neg hj]
      obtain ⟨h1, h2⟩ := step_plain (wants := wants) (T' := c.Tick + 1) I t (.inr hgG) ht (.inr ⟨hgG, learnsM c notes sights, wantsM wants c.Mates.length, H, rfl, rfl, hb.1, hb.2.1, hb.2.2⟩)
      exact ⟨_, c.Tick + 1, rfl, h1, h2, keepP _ G0 _ h2 (by rw [gi.now]; omega) rfl (fun _ => hgG), .inr (.inl ⟨hgG, H, by simpa using hj, rfl⟩)⟩
end
end Go.Abs.Convoy

namespace Go.Abs.Convoy
open Go Go.Abs

section
variable {G T : Int} {c : Convoy}
/-! ### What is sent, and what is sighted -/
theorem look_inv (I : Inv G T c) {id : Int} {l : List Int} {x : Sight} (h : lookM c id l = (x, 0)) : SightI G c x ∧ x.By = id := by
  unfold lookM at h
  rw [if_neg (by rw [inv_chk I]; decide)] at h
  split at h
  · cases h
  · rename_i a ha
    split at h
    · cases h
    · rename_i m hm
      simp only [Prod.mk.injEq, and_true] at h
      have M := I.mates a m hm
      have n0 := noise_bd l 0 (show (0 : Int) < 101 by decide)
      have n2 := noise_bd l 2 (show (0 : Int) < 6 by decide)
      have v := M.v
      have hL : Lower ⟨m.S - m.Len - noiseM l 0 101, max 0 (m.V - noiseM l 2 6)⟩ ⟨m.S - m.Len, m.V⟩ := by
        refine ⟨by dsimp only; omega, ?_⟩
        have := stop_mono (show max 0 (m.V - noiseM l 2 6) ≤ m.V by omega) (by omega)
        unfold endM; dsimp only; omega
      subst h
      refine ⟨⟨fun i m' k hm' hid hi hk => ?_, fun h0 hid k km hk hkm => ?_⟩, rfl⟩
      · have hne : ¬ (id != 0 && id == c.Guest_.ID) = true := by
          intro z
          simp only [Bool.and_eq_true, bne_iff_ne, ne_eq, beq_iff_eq] at z
          have gi := I.noG (by rw [← z.2]; exact z.1)
          exact gi.new i m' hm' (hid.trans (z.2.trans gi.id))
        rw [if_neg hne] at ha
        have hf := find_uniq I hm'
        have hx : idxI (fun m => m.ID == id) c.Mates = (i : Int) := by
          unfold idxI
          rw [show (fun m : Mate => m.ID == id) = idP m'.ID from by funext z; unfold idP; rw [show m'.ID = id from hid], hf]
        rw [hx] at ha
        have : a = i - 1 := by
          have h1 : (i : Int) - 1 = (a : Int) := ha
          omega
        subst this
        rw [hm] at hk; cases hk
        exact hL
      · have hid' : c.Guest_.ID = id := hid
        rw [if_pos (by simp only [Bool.and_eq_true, bne_iff_ne, ne_eq, beq_iff_eq]; exact ⟨by rw [← hid']; exact h0, hid'.symm⟩)] at ha
        have : a = k := by
          have h1 : (besM c).1 = (a : Int) := ha
          omega
        subst this
        rw [hm] at hkm; cases hkm
        exact hL
end
end Go.Abs.Convoy

namespace Go.Abs.Convoy
open Go Go.Abs

/-! ### The program's step is the model's -/
theorem appc_eq {α : Type} {xs ys : List α} (h : xs.length + ys.length ≤ 1000000000) : appc xs ys = some (xs ++ ys) := by unfold appc; rw [if_pos h]
def S0 : Sight := ⟨0, 0, 0, 0, 0⟩
def mind (t gap : Int) (x : Option Sight) (m : Mate) : ConvoyMind := ⟨m, t, gap, x.getD S0, x.isSome⟩
theorem counts_eq (n : Note) {t : Int} (h0 : 0 ≤ t) (h1 : t ≤ 1099511627776) : convoy_counts n t = some (countsM n t) := by
  unfold convoy_counts countsM
  simp only [convoy_within_eq, fairGuess_eq, mm2_max, cond_some, Option.bind_some]
  rw [w64_id (n := t - 20) (by omega)]
  have e : ∀ a b d : Bool, (a && cond a b d) = (a && b) := by intro a b d; cases a <;> rfl
  simp only [e, within, ge_iff_le, Bool.and_assoc]
theorem counts_stamp {n : Note} {t : Int} (h : countsM n t = true) : (1 ≤ n.Kind ∧ n.Kind ≤ 4) ∧ (1 ≤ n.From ∧ n.From ≤ 99) ∧ 0 ≤ n.Stamp ∧ t - 20 ≤ n.Stamp ∧ n.Stamp ≤ t := by
  unfold countsM at h
  simp only [Bool.and_eq_true, within_iff] at h
  omega
def letterM (t : Int) (n : Note) : ConvoyLetter := ⟨n, agedM n t⟩
def lettersM (notes : List Note) (t : Int) : List ConvoyLetter := (notes.filter (countsM · t)).map (letterM t)
theorem post_eq (notes : List Note) {t : Int} (h0 : 0 ≤ t) (h1 : t ≤ 1099511627776) (hl : notes.length ≤ 1000000) : convoy_post notes t = some (lettersM notes t) := by
  have key : ∀ (r : List Note) (i : Nat) (ls : List ConvoyLetter), notes.drop i = r → ls.length ≤ i → i ≤ notes.length → loop (convoy_post_l1 notes t) (ls, (i : Int)) = some (ls ++ lettersM r t) := by
    intro r
    induction r with
    | nil =>
      intro i ls hi _ hil
      have := drop_nil hi
      refine loop_out ?_
      unfold convoy_post_l1
      dsimp only
      rw [show decide ((i : Int) < (notes.length : Int)) = false from decide_eq_false (by omega)]
      simp [lettersM]
    | cons n r ih =>
      intro i ls hi hli hil
      have hlt := drop_lt hi
      have hs : convoy_post_l1 notes t (ls, (i : Int)) = some (.go (if countsM n t then ls ++ [letterM t n] else ls, (((i + 1 : Nat)) : Int))) := by
        unfold convoy_post_l1
        dsimp only
        rw [show decide ((i : Int) < (notes.length : Int)) = true from decide_eq_true (by omega), geti_drop hi, w64_id (n := (i : Int) + 1) (by omega)]
        simp only [cond_true, Option.bind_some, counts_eq n h0 h1]
        cases hc : countsM n t
        · simp only [cond_false, Bool.false_eq_true, if_false]; rfl
        · have := counts_stamp hc
          rw [w64_id (n := t - n.Stamp) (by omega), (Age_eq _ _).1]
          simp only [cond_true, Option.bind_some, if_true]
          rw [appc_eq (by simp only [List.length_cons, List.length_nil]; omega)]
          rfl
      rw [loop_go hs, ih (i + 1) _ (drop_succ hi) (by split <;> (try simp only [List.length_append, List.length_cons, List.length_nil]) <;> omega) (by omega)]
      unfold lettersM
      cases hc : countsM n t
      · simp [hc]
      · simp [hc, letterM]
  unfold convoy_post
  have := key notes 0 [] rfl (by simp) (by omega)
  rw [show ((0 : Nat) : Int) = 0 from rfl] at this
  rw [this]; rfl
theorem find_idx {α : Type} (P : α → Bool) : ∀ (l : List α), l.find? P = (l.findIdx? P).bind fun i => l[i]?
  | [] => rfl
  | a :: r => by
    rw [List.find?_cons, List.findIdx?_cons]
    cases h : P a
    · simp only [find_idx P r, Bool.false_eq_true, if_false]
      cases r.findIdx? P <;> simp
    · simp
theorem sight_eq (l : List Sight) (id : Int) (hl : l.length ≤ 1000000) : convoy_look l id = some ((sightM l id).getD S0, (sightM l id).isSome) := by
  unfold convoy_look slices_IndexFunc_Sight_Sight_convoy_look_1b
  rw [index_eq l (sightP id) (by omega) (fun i a h => by
    have := get_lt h
    unfold slices_IndexFunc_Sight_Sight_convoy_look_1b_l1 convoy_look_1_b
    rw [show decide ((i : Int) < (l.length : Int)) = true from decide_eq_true (by omega), geti_some h]
    simp only [cond_true, Option.bind_some]
    unfold sightP
    simp only [ge_iff_le]
    cases (a.By == id && decide (a.Lo ≤ a.Hi) && decide (a.VLo ≤ a.VHi) && decide (-20000 ≤ a.Lo) && decide (a.Hi ≤ 2199023255552) && decide (0 ≤ a.VLo) && decide (a.VHi ≤ 2000)) <;> rfl) (by
    unfold slices_IndexFunc_Sight_Sight_convoy_look_1b_l1
    simp)]
  rw [Option.bind_some]
  unfold sightM
  rw [find_idx]
  unfold idxI
  cases h : l.findIdx? (sightP id) with
  | none => rfl
  | some i =>
    obtain ⟨q, _⟩ := List.findIdx?_eq_some_iff_getElem.1 h
    rw [show decide (((match some i with | some i => (i : Int) | none => -1) : Int) < 0) = false from decide_eq_false (by dsimp only; omega)]
    dsimp only
    rw [cond_false, geti_nat q, Option.bind_some, Option.bind_some, List.getElem?_eq_getElem q]
    rfl
theorem bne_if {α : Type} (a b : Int) (x y : α) : cond (a != b) x y = if a ≠ b then x else y := by
  by_cases h : a = b
  · rw [if_neg (by simpa using h), h]; simp
  · rw [if_pos h, show (a != b) = true by simpa using h]; rfl
theorem hail_eq (t gap : Int) (x : Option Sight) (m : Mate) (n : Note) : convoy_mind_hail_oa (mind t gap x m) (letterM t n) = some (mind t gap x (hailM m n x t)) := by
  have e1 : (cond ((m.Until != 0) && (n.From == m.Ward)) ((convoy_Better m.WardGuess (agedM n t)).bind fun v1 => some (ConvoyMind.mk (Mate.mk m.ID m.S m.V m.Len m.Ahead m.Guess_ m.Trust m.Ward v1 m.Until) t gap (x.getD S0) x.isSome)) (some (mind t gap x m))) = some (mind t gap x (if m.Until ≠ 0 ∧ n.From = m.Ward then { m with WardGuess := betterM m.WardGuess (agedM n t) } else m)) := by
    rw [convoy_Better_eq]
    by_cases h : m.Until ≠ 0 ∧ n.From = m.Ward
    · rw [if_pos h, show ((m.Until != 0) && (n.From == m.Ward)) = true by simpa using h]; rfl
    · rw [if_neg h, show ((m.Until != 0) && (n.From == m.Ward)) = false by rw [Bool.eq_false_iff]; simpa using h]; rfl
  unfold convoy_mind_hail_oa hailM
  refine (congrArg (fun z => Option.bind z _) e1).trans ?_
  rw [Option.bind_some]
  generalize (if m.Until ≠ 0 ∧ n.From = m.Ward then { m with WardGuess := betterM m.WardGuess (agedM n t) } else m) = k
  dsimp only [mind, letterM]
  simp only [convoy_within_eq, convoy_Better_eq, cond_some, Option.bind_some]
  by_cases h : k.Ahead ≠ 0 ∧ n.From = k.Ahead
  · rw [if_pos h, show ((k.Ahead == 0) || (n.From != k.Ahead)) = false by simp [h.1, h.2]]
    cases x with
    | none => cases hT : k.Trust <;> simp
    | some x =>
      dsimp only [Option.getD_some, Option.isSome_some]
      by_cases hs : n.Stamp = t
      · rw [hs, show (t == t) = true by simp]
        cases within n.R x.Lo x.Hi <;> cases within n.V x.VLo x.VHi <;> simp
      · rw [show (n.Stamp == t) = false by simpa using hs, if_neg (fun z => hs z.1)]
        rfl
  · rw [if_neg h, show ((k.Ahead == 0) || (n.From != k.Ahead)) = true by
      by_cases a : k.Ahead = 0
      · simp [a]
      · simp only [not_and] at h
        simp [a, h a]]
    rfl
theorem cond_ite {α : Type} {b : Bool} {P : Prop} [Decidable P] {x y : α} (h : b = true ↔ P) : cond b x y = if P then x else y := by
  by_cases p : P
  · rw [if_pos p, h.2 p]; rfl
  · rw [if_neg p, Bool.eq_false_iff.2 (fun q => p (h.1 q))]; rfl
theorem asking_eq (t gap : Int) (x : Option Sight) (m : Mate) (n : Note) : convoy_mind_ask_oa (mind t gap x m) (letterM t n) = some (mind t gap x (askM m n t)) := by
  unfold convoy_mind_ask_oa askM
  dsimp only [mind, letterM]
  simp only [convoy_Better_eq, Option.bind_some]
  refine (cond_ite (P := n.To ≠ m.ID) (by simp)).trans ?_
  split
  · rfl
  · refine (cond_ite (P := m.Ward = 0 ∨ (n.From = m.Ward ∧ m.Until ≠ 0 ∧ m.Until < n.Stamp)) (by simp [and_assoc])).trans ?_
    split
    · rfl
    · refine (cond_ite (P := n.From = m.Ward) (by simp)).trans ?_
      split <;> rfl
theorem merged_eq (t gap : Int) (x : Option Sight) (m : Mate) (n : Note) : convoy_mind_done_oa (mind t gap x m) (letterM t n) = some (mind t gap x (doneM m n x t)) := by
  unfold convoy_mind_done_oa doneM convoy_mind_forget_o
  dsimp only [mind, letterM]
  simp only [convoy_Better_eq, Option.bind_some]
  by_cases h : n.To ≠ m.ID ∨ m.Until = 0 ∨ n.From ≠ m.Ward
  · rw [if_pos h, show ((n.To != m.ID) || (m.Until == 0) || (n.From != m.Ward)) = true by simpa [or_assoc] using h]; rfl
  · rw [if_neg h, show ((n.To != m.ID) || (m.Until == 0) || (n.From != m.Ward)) = false by rw [Bool.eq_false_iff]; simpa [or_assoc] using h]
    cases x <;> rfl
theorem hear_eq (t gap : Int) (x : Option Sight) (m : Mate) (n : Note) (hc : countsM n t = true) : ((convoy_hears n.Kind).bind fun v => choose_convoy_mind_hail_oa v (mind t gap x m) (letterM t n)) = some (mind t gap x (hearM m n x t)) := by
  have hk := (counts_stamp hc).1
  unfold hearM
  rcases (show n.Kind = 1 ∨ n.Kind = 2 ∨ n.Kind = 3 ∨ n.Kind = 4 by omega) with h | h | h | h <;> rw [h]
  · rw [if_pos rfl, ← hail_eq t gap x m n]; rfl
  · rw [if_neg (by decide), if_pos rfl, ← asking_eq t gap x m n]; rfl
  · rw [if_neg (by decide), if_neg (by decide), if_neg (by decide)]; rfl
  · rw [if_neg (by decide), if_neg (by decide), if_pos rfl, ← merged_eq t gap x m n]; rfl
theorem fold_filter {α β : Type} (P : α → Bool) (f : β → α → β) : ∀ (l : List α) (b : β), (l.filter P).foldl f b = l.foldl (fun b a => if P a then f b a else b) b
  | [], _ => rfl
  | a :: r, b => by
    rw [List.filter_cons, List.foldl_cons]
    cases h : P a
    · simp [fold_filter P f r]
    · simp [fold_filter P f r]
theorem thinks_loop (t gap : Int) (x : Option Sight) (id : Int) (ls : List Note) (hl : ls.length ≤ 1000000) (hc : ∀ n ∈ ls, countsM n t = true) :
    ∀ (r : List Note) (i : Nat) (m : Mate), ls.drop i = r → i ≤ ls.length → m.ID = id → loop (convoy_mind_thinks_o_l1 (ls.map (letterM t))) ((i : Int), mind t gap x m) = some (mind t gap x (r.foldl (fun k n => if n.From != id then hearM k n x t else k) m)) := by
  intro r
  induction r with
  | nil =>
    intro i m hi hil _
    have := drop_nil hi
    refine loop_out ?_
    unfold convoy_mind_thinks_o_l1
    dsimp only
    rw [List.length_map, show decide ((i : Int) < (ls.length : Int)) = false from decide_eq_false (by omega)]
    rfl
  | cons n r ih =>
    intro i m hi hil hid
    have hlt := drop_lt hi
    have hn : n ∈ ls := List.mem_of_mem_drop (by rw [hi]; exact List.mem_cons_self)
    have hd : (ls.map (letterM t)).drop i = letterM t n :: r.map (letterM t) := by rw [← List.map_drop, hi]; rfl
    have hs : convoy_mind_thinks_o_l1 (ls.map (letterM t)) ((i : Int), mind t gap x m) = some (.go (((i + 1 : Nat) : Int), mind t gap x (if n.From != id then hearM m n x t else m))) := by
      unfold convoy_mind_thinks_o_l1
      dsimp only
      rw [List.length_map, show decide ((i : Int) < (ls.length : Int)) = true from decide_eq_true (by omega), geti_drop hd, w64_id (n := (i : Int) + 1) (by omega)]
      simp only [cond_true, Option.bind_some]
      rw [show (letterM t n).Note_ = n from rfl, show (mind t gap x m).Mate_ = m from rfl, hid]
      have := hear_eq t gap x m n (hc n hn)
      cases hf : (n.From != id)
      · rfl
      · rw [cond_true, if_pos rfl]
        cases hh : convoy_hears n.Kind with
        | none => rw [hh] at this; cases this
        | some v =>
          rw [hh, Option.bind_some] at this
          rw [Option.bind_some, this]; rfl
    rw [loop_go hs, ih (i + 1) _ (drop_succ hi) (by omega) (by
      split
      · rw [(hear_same _ _ _ _).id]; exact hid
      · exact hid)]
    rfl
theorem asks_eq (t gap : Int) (x : Option Sight) (m : Mate) (ls : List Note) (hl : ls.length ≤ 1000000) : slices_ContainsFunc_letter_letter_convoy_mind_thinks_1bb (ls.map (letterM t)) (mind t gap x m) = some (ls.any fun n => n.Kind == 2 && n.To == m.ID && n.From == m.Ward && n.From != m.ID) := by
  unfold slices_ContainsFunc_letter_letter_convoy_mind_thinks_1bb slices_IndexFunc_letter_letter_convoy_mind_thinks_1bb
  rw [index_eq (ls.map (letterM t)) (fun l => l.Note_.Kind == 2 && l.Note_.To == m.ID && l.Note_.From == m.Ward && l.Note_.From != m.ID) (by rw [List.length_map]; omega) (fun i a h => by
    have := get_lt h
    unfold slices_IndexFunc_letter_letter_convoy_mind_thinks_1bb_l1 convoy_mind_thinks_1_bb
    rw [show decide ((i : Int) < ((ls.map (letterM t)).length : Int)) = true from decide_eq_true (by omega), geti_some h]
    simp only [cond_true, Option.bind_some, mind]
    cases (a.Note_.Kind == 2 && a.Note_.To == m.ID && a.Note_.From == m.Ward && a.Note_.From != m.ID) <;> rfl) (by
    unfold slices_IndexFunc_letter_letter_convoy_mind_thinks_1bb_l1
    simp)]
  rw [Option.bind_some, idxI_any, List.any_map]; rfl
theorem thinks_eq (c : Convoy) (notes : List Note) (sights : List Sight) (m : Mate) (hl : notes.length ≤ 1000000) (h0 : 0 ≤ c.Tick) (h1 : c.Tick ≤ 1099511627776) :
    convoy_mind_thinks_o (mind c.Tick c.Gap (sightM sights m.ID) m) (lettersM notes c.Tick) = some (mind c.Tick c.Gap (sightM sights m.ID) (believeM c notes sights m)) := by
  have hfl : (notes.filter (countsM · c.Tick)).length ≤ 1000000 := Nat.le_trans (List.length_filter_le _ _) hl
  have hloop := thinks_loop c.Tick c.Gap (sightM sights m.ID) m.ID (notes.filter (countsM · c.Tick)) hfl (fun n hn => (List.mem_filter.1 hn).2) _ 0 m rfl (by omega) rfl
  rw [show ((0 : Nat) : Int) = 0 from rfl, List.drop_zero, fold_filter] at hloop
  have hh : notes.foldl (fun b a => if countsM a c.Tick = true then (if (a.From != m.ID) = true then hearM b a (sightM sights m.ID) c.Tick else b) else b) m = heardM notes (sightM sights m.ID) c.Tick m := by
    unfold heardM
    congr 1
    funext b a
    cases countsM a c.Tick <;> cases (a.From != m.ID) <;> rfl
  rw [hh] at hloop
  unfold believeM
  dsimp only
  unfold convoy_mind_thinks_o
  rw [show lettersM notes c.Tick = (notes.filter (countsM · c.Tick)).map (letterM c.Tick) from rfl, hloop, Option.bind_some]
  generalize sightM sights m.ID = x
  generalize heardM notes x c.Tick m = k
  have ha : (notes.filter (countsM · c.Tick)).any (fun n => n.Kind == 2 && n.To == k.ID && n.From == k.Ward && n.From != k.ID) = notes.any (asksM k c.Tick) := by
    rw [List.any_filter]
    congr 1
    funext n
    unfold asksM
    simp only [Bool.and_assoc]
  rw [asks_eq _ _ _ _ _ hfl, ha]
  generalize notes.any (asksM k c.Tick) = q
  -- forget
  have e1 : ((cond (((mind c.Tick c.Gap x k).Mate_.Ward != 0) && ((mind c.Tick c.Gap x k).Mate_.Until == 0)) (some q) (some default)).bind fun v4 => (cond ((((mind c.Tick c.Gap x k).Mate_.Ward != 0) && ((mind c.Tick c.Gap x k).Mate_.Until == 0)) && (!v4)) ((convoy_mind_forget_o (mind c.Tick c.Gap x k)).bind fun v5 => some v5) (some (mind c.Tick c.Gap x k)))) = some (mind c.Tick c.Gap x (forgetM k q)) := by
    unfold forgetM convoy_mind_forget_o
    dsimp only [mind]
    by_cases h : k.Ward ≠ 0 ∧ k.Until = 0
    · rw [show ((k.Ward != 0) && (k.Until == 0)) = true by simpa using h]
      cases q
      · rw [if_pos ⟨h.1, h.2, rfl⟩]; rfl
      · rw [if_neg (fun z => by cases z.2.2)]; rfl
    · rw [show ((k.Ward != 0) && (k.Until == 0)) = false by rw [Bool.eq_false_iff]; simpa using h, if_neg (fun z => h ⟨z.1, z.2.1⟩)]; rfl
  have assoc1 : ∀ {α β γ : Type} (a : Option α) (f : α → Option β) (g : β → Option γ), (a.bind fun v => (f v).bind g) = (a.bind f).bind g := fun a f g => by cases a <;> rfl
  refine (assoc1 _ _ _).trans ?_
  rw [e1, Option.bind_some]
  generalize forgetM k q = k1
  have e2 : (cond ((mind c.Tick c.Gap x k1).sees && ((mind c.Tick c.Gap x k1).Mate_.Ahead != 0)) ((convoy_Better (mind c.Tick c.Gap x k1).Mate_.Guess_ (Guess.mk (mind c.Tick c.Gap x k1).sight.Lo (mind c.Tick c.Gap x k1).sight.VLo)).bind fun v6 => some (ConvoyMind.mk (Mate.mk k1.ID k1.S k1.V k1.Len k1.Ahead v6 k1.Trust k1.Ward k1.WardGuess k1.Until) c.Tick c.Gap (x.getD S0) x.isSome)) (some (mind c.Tick c.Gap x k1))) = some (mind c.Tick c.Gap x (seeM k1 x)) := by
    unfold seeM
    cases x with
    | none => rfl
    | some x =>
      dsimp only [mind, Option.isSome_some, Option.getD_some]
      rw [convoy_Better_eq, Option.bind_some, Bool.true_and]
      refine (cond_ite (P := k1.Ahead ≠ 0) (by simp)).trans ?_
      split <;> rfl
  refine (congrArg (fun z => Option.bind z _) e2).trans ?_
  rw [Option.bind_some]
  generalize seeM k1 x = k2
  unfold grantM
  dsimp only [mind]
  rw [convoy_Safe_eq, cond_some, Option.bind_some, w64_id (n := c.Tick + 30) (by omega)]
  refine (cond_ite (P := k2.Ward ≠ 0 ∧ k2.Until = 0 ∧ safeM k2.S k2.V c.Gap k2.WardGuess = true) ?_).trans ?_
  · have e : ∀ a b d : Bool, (a && cond a b d) = (a && b) := by intro a b d; cases a <;> rfl
    rw [e]
    simp [and_assoc]
  · split <;> rfl

/-! ### The moves -/
theorem moved_eq {s v a : Int} (hs : 0 ≤ s ∧ s ≤ 2000000000000) (hv : 0 ≤ v ∧ v ≤ 2000) (ha : -90 ≤ a ∧ a ≤ 30) : convoy_moved s v a = some (s + speedM v a, speedM v a) := by
  unfold convoy_moved
  rw [mm2_max, mm2_min, w64_id (n := v + a) (by omega)]
  have := speed_bd v a
  rw [show max 0 (min (v + a) 2000) = speedM v a from rfl, w64_id (by omega)]
theorem great_loop {f : Int → Option (Stp Int Int)} (right : Int → Bool) (hf : ∀ a, -90 < a → a ≤ 30 → f a = some (if right a then .out a else .go (a - 1))) (h0 : f (-90) = some (.out (-90))) :
    ∀ (k : Nat) (a : Int), a = -90 + k → a ≤ 30 → loop f a = some (downM right k a)
  | 0, a, h, _ => by
    obtain rfl : a = -90 := by omega
    exact loop_out h0
  | k + 1, a, h, h1 => by
    have hs := hf a (by omega) h1
    unfold downM
    cases hr : right a
    · rw [hr] at hs
      rw [loop_go hs, if_neg (by simp)]
      exact great_loop right hf h0 k (a - 1) (by omega) (by omega)
    · rw [hr] at hs
      rw [loop_out hs, if_pos rfl]
theorem drives_eq (t gap : Int) (x : Option Sight) (m : Mate) (want : Int) (hs : 0 ≤ m.S ∧ m.S ≤ 2000000000000) (hv : 0 ≤ m.V ∧ m.V ≤ 2000) : convoy_mind_drives_b (mind t gap x m) want = some (driveM gap m want) := by
  unfold convoy_mind_drives_b driveM
  dsimp only [mind]
  have e1 : (cond ((m.Ward != 0) && (m.Until == 0)) (some (mm2 false want (-20))) (some want)) = some (wantM m want) := by
    unfold wantM
    rw [mm2_min]
    refine (cond_ite (P := m.Ward ≠ 0 ∧ m.Until = 0) (by simp)).trans ?_
    split <;> rfl
  rw [e1, Option.bind_some, (Age_eq _ _).1, (Age_eq _ _).1, Option.bind_some, Option.bind_some]
  have e2 : convoy_greatest_convoy_mind_drives_1bbbb m.S m.V (wantM m want) ⟨m, t, gap, x.getD S0, x.isSome⟩ (ageM m.Guess_ 1) (ageM m.WardGuess 1) = some (greatM (mayM gap m) (wantM m want)) := by
    unfold convoy_greatest_convoy_mind_drives_1bbbb greatM
    rw [mm2_max, mm2_min, great_loop (mayM gap m) (fun a h1 h2 => by
      unfold convoy_greatest_convoy_mind_drives_1bbbb_l1 convoy_mind_drives_1_bb_b_b
      rw [show decide (a > -90) = true from decide_eq_true h1, moved_eq hs hv (by omega), w64_id (n := a - 1) (by omega)]
      simp only [cond_true, Option.bind_some, keeps_eq]
      rw [show keepM gap m (m.S + speedM m.V a) (speedM m.V a) (ageM m.Guess_ 1) (ageM m.WardGuess 1) = mayM gap m a from rfl]
      cases mayM gap m a <;> rfl) (by
      unfold convoy_greatest_convoy_mind_drives_1bbbb_l1
      rfl) (max (-90) (min (wantM m want) 30) + 90).toNat _ (by omega) (by omega)]
    rfl
  rw [e2, Option.bind_some]
  have hg := (great_ok (mayM gap m) (wantM m want)).1
  rw [moved_eq hs hv (by omega), Option.bind_some]
  dsimp only
  simp only [bne_if]
  by_cases h1 : m.Ahead ≠ 0 <;> by_cases h2 : m.Ward ≠ 0
  · simp only [if_pos h1, if_pos h2]; rfl
  · simp only [if_pos h1, if_neg h2]; rfl
  · simp only [if_neg h1, if_pos h2]; rfl
  · simp only [if_neg h1, if_neg h2]; rfl
end Go.Abs.Convoy

namespace Go.Abs.Convoy
open Go Go.Abs

theorem want_eq (wants : List Int) (i : Nat) : convoy_Step_2_b (i : Int) wants = some (wantsM wants i) := by
  unfold convoy_Step_2_b wantsM
  by_cases h : i < wants.length
  · rw [show decide ((i : Int) < (wants.length : Int)) = true from decide_eq_true (by omega), geti_nat h, List.getD, List.getElem?_eq_getElem h]; rfl
  · rw [show decide ((i : Int) < (wants.length : Int)) = false from decide_eq_false (by omega), List.getD, List.getElem?_eq_none (by omega)]; rfl
theorem id_eq (c : Convoy) (a : Int) (h : a < (c.Mates.length : Int)) : cond (decide (a ≥ 0)) ((geti c.Mates a).bind fun v => some v.ID) (some 0) = some (idAt c a) := by
  unfold idAt
  by_cases h0 : 0 ≤ a
  · obtain ⟨k, rfl⟩ : ∃ k : Nat, a = (k : Int) := ⟨a.toNat, (Int.toNat_of_nonneg h0).symm⟩
    have hk : k < c.Mates.length := by omega
    rw [show decide ((k : Int) ≥ 0) = true from decide_eq_true h0, geti_nat hk, if_pos h0, Int.toNat_natCast, List.getElem?_eq_getElem hk]; rfl
  · rw [show decide (a ≥ 0) = false from decide_eq_false (by omega), if_neg h0]; rfl
theorem nearer_eq (g : Guest) (id : Int) (x : Guess) : convoy_nearer_o g id x = some (nearM g id x) := by
  unfold convoy_nearer_o nearM
  rw [convoy_Better_eq, Option.bind_some, bne_if]
  split <;> rfl
theorem arrives_loop (c : Convoy) (y1 y2 : Int) (ls : List Note) (hl : ls.length ≤ 1000000) (hc : ∀ n ∈ ls, countsM n c.Tick = true) :
    ∀ (r : List Note) (i : Nat) (g : Guest), ls.drop i = r → i ≤ ls.length → loop (convoy_arrives_l1 c (ls.map (letterM c.Tick)) y1 y2) ((i : Int), g) = some (r.foldl (learnM y1 y2 c.Tick) g) := by
  intro r
  induction r with
  | nil =>
    intro i g hi hil
    have := drop_nil hi
    refine loop_out ?_
    unfold convoy_arrives_l1
    dsimp only
    rw [List.length_map, show decide ((i : Int) < (ls.length : Int)) = false from decide_eq_false (by omega)]
    rfl
  | cons n r ih =>
    intro i g hi hil
    have hlt := drop_lt hi
    have hn : n ∈ ls := List.mem_of_mem_drop (by rw [hi]; exact List.mem_cons_self)
    have hd : (ls.map (letterM c.Tick)).drop i = letterM c.Tick n :: r.map (letterM c.Tick) := by rw [← List.map_drop, hi]; rfl
    have hs : convoy_arrives_l1 c (ls.map (letterM c.Tick)) y1 y2 ((i : Int), g) = some (.go (((i + 1 : Nat) : Int), learnM y1 y2 c.Tick g n)) := by
      have hf := (counts_stamp (hc n hn)).2.1
      unfold convoy_arrives_l1
      dsimp only
      rw [List.length_map, show decide ((i : Int) < (ls.length : Int)) = true from decide_eq_true (by omega), geti_drop hd, w64_id (n := (i : Int) + 1) (by omega)]
      simp only [cond_true, Option.bind_some, nearer_eq]
      rw [show (letterM c.Tick n).Note_ = n from rfl, show (letterM c.Tick n).guess = agedM n c.Tick from rfl]
      unfold learnM
      rw [if_pos (hc n hn)]
      refine (cond_ite (P := n.Kind = 1 ∧ y1 ≠ 0 ∧ n.From = y1) ?_).trans ?_
      · simp only [Bool.and_eq_true, beq_iff_eq]
        constructor
        · rintro ⟨a, b⟩; exact ⟨a, by omega, b⟩
        · rintro ⟨a, _, b⟩; exact ⟨a, b⟩
      split
      · rfl
      · refine (cond_ite (P := n.Kind = 3 ∧ n.To = g.ID ∧ y2 ≠ 0 ∧ n.From = y2 ∧ c.Tick ≤ n.Until) ?_).trans ?_
        · simp only [Bool.and_eq_true, beq_iff_eq, decide_eq_true_eq, ge_iff_le]
          constructor
          · rintro ⟨⟨⟨a, b⟩, d⟩, e⟩; exact ⟨a, b, by omega, d, e⟩
          · rintro ⟨a, b, _, d, e⟩; exact ⟨⟨⟨a, b⟩, d⟩, e⟩
        split <;> rfl
    rw [loop_go hs, ih (i + 1) _ (drop_succ hi) (by omega)]
    rfl
theorem fold_learn (y1 y2 t : Int) : ∀ (l : List Note) (g : Guest), (l.filter (countsM · t)).foldl (learnM y1 y2 t) g = l.foldl (learnM y1 y2 t) g
  | [], _ => rfl
  | n :: r, g => by
    rw [List.filter_cons, List.foldl_cons]
    cases h : countsM n t
    · rw [if_neg (by simp), fold_learn y1 y2 t r, show learnM y1 y2 t g n = g by unfold learnM; rw [h]; rfl]
    · rw [if_pos rfl, List.foldl_cons, fold_learn y1 y2 t r]
theorem arrives_eq (c : Convoy) (notes : List Note) (sights : List Sight) (hl : notes.length ≤ 1000000) (hs : sights.length ≤ 1000000) (hm : c.Mates.length ≤ 1000000) :
    convoy_arrives c (lettersM notes c.Tick) sights = some (learnsM c notes sights, mergeM c (learnsM c notes sights)) := by
  have hfl : (notes.filter (countsM · c.Tick)).length ≤ 1000000 := Nat.le_trans (List.length_filter_le _ _) hl
  obtain ⟨b1, b2, b3⟩ := besM_lt c
  unfold convoy_arrives
  rw [convoy_beside_eq c hm, Option.bind_some, id_eq c _ b1, Option.bind_some, id_eq c _ (by rcases b3 with h | ⟨j, h1, h2⟩ <;> omega), Option.bind_some]
  unfold learnsM
  dsimp only
  have e0 : (cond (c.Guest_.Ahead != idAt c (besM c).1) (some (Guest.mk c.Guest_.ID c.Guest_.S c.Guest_.V c.Guest_.Len c.Guest_.End 0 (Guess.mk 0 0) c.Guest_.From c.Guest_.Until)) (some c.Guest_)) = some (if c.Guest_.Ahead ≠ idAt c (besM c).1 then { c.Guest_ with Ahead := 0, Guess_ := ⟨0, 0⟩ } else c.Guest_) := by
    rw [bne_if]; split <;> rfl
  rw [e0, Option.bind_some]
  generalize (if c.Guest_.Ahead ≠ idAt c (besM c).1 then { c.Guest_ with Ahead := 0, Guess_ := ⟨0, 0⟩ } else c.Guest_) = g
  have hloop := arrives_loop c (idAt c (besM c).1) (idAt c (besM c).2) (notes.filter (countsM · c.Tick)) hfl (fun n hn => (List.mem_filter.1 hn).2) _ 0 g rfl (by omega)
  rw [show ((0 : Nat) : Int) = 0 from rfl, List.drop_zero, fold_learn] at hloop
  rw [show lettersM notes c.Tick = (notes.filter (countsM · c.Tick)).map (letterM c.Tick) from rfl, hloop, Option.bind_some]
  generalize notes.foldl (learnM (idAt c (besM c).1) (idAt c (besM c).2) c.Tick) g = k
  rw [sight_eq sights k.ID hs, Option.bind_some]
  dsimp only
  have fin : ∀ q : Guest, ((cond ((!(idAt c (besM c).1 == 0)) && (q.Ahead == idAt c (besM c).1)) (convoy_Safe q.S q.V c.Gap q.Guess_) (some default)).bind fun v8 => some (q, (((idAt c (besM c).1 == 0) || ((q.Ahead == idAt c (besM c).1) && v8)) && ((idAt c (besM c).2 == 0) || ((q.From == idAt c (besM c).2) && (decide (c.Tick ≤ q.Until))))))) = some (q, mergeM c q) := by
    intro q
    rw [convoy_Safe_eq, cond_some, Option.bind_some]
    unfold mergeM
    dsimp only
    have e2 : ∀ a b d e : Bool, (a || (b && cond (!a && b) d e)) = (a || (b && d)) := by intro a b d e; cases a <;> cases b <;> rfl
    rw [e2]
  cases sightM sights k.ID with
  | none => exact fin k
  | some x =>
    rw [nearer_eq, Option.bind_some, show (some x).isSome = true from rfl, Bool.true_and, bne_if]
    dsimp only [Option.getD_some]
    split
    · exact fin _
    · exact fin _
theorem rolls_eq {g : Guest} (want : Int) (hs : 0 ≤ g.S ∧ g.S ≤ 2000000000000) (hv : 0 ≤ g.V ∧ g.V ≤ 2000) : convoy_rolls g want = some (rollM g want) := by
  unfold convoy_rolls rollM
  dsimp only
  have e2 : convoy_greatest_convoy_rolls_1b g.S g.V want g = some (greatM (fun a => decide (g.S + speedM g.V a + stopM (speedM g.V a) < g.End)) want) := by
    unfold convoy_greatest_convoy_rolls_1b greatM
    rw [mm2_max, mm2_min, great_loop (fun a => decide (g.S + speedM g.V a + stopM (speedM g.V a) < g.End)) (fun a h1 h2 => by
      unfold convoy_greatest_convoy_rolls_1b_l1 convoy_rolls_1_b
      rw [show decide (a > -90) = true from decide_eq_true h1, moved_eq hs hv (by omega), w64_id (n := a - 1) (by omega)]
      have b1 := speed_bd g.V a
      have b2 := stop2000 b1.2
      simp only [cond_true, Option.bind_some, convoy_stop_eq]
      rw [w64_id (n := g.S + speedM g.V a + stopM (speedM g.V a)) (by omega)]
      cases decide (g.S + speedM g.V a + stopM (speedM g.V a) < g.End) <;> rfl) (by
      unfold convoy_greatest_convoy_rolls_1b_l1
      rfl) (max (-90) (min want 30) + 90).toNat _ (by omega) (by omega)]
    rfl
  have hg := (great_ok (fun a => decide (g.S + speedM g.V a + stopM (speedM g.V a) < g.End)) want).1
  rw [e2, Option.bind_some, moved_eq hs hv (by omega), Option.bind_some, (Age_eq _ _).1, Option.bind_some, bne_if]
  dsimp only
  split <;> rfl

/-! ### The whole step -/
theorem chk_tick {c : Convoy} (h : chkM c = 0) : (0 ≤ c.Tick ∧ c.Tick ≤ 1099511627776) ∧ 1 ≤ c.Gap ∧ c.Gap ≤ 20000 := by
  obtain ⟨⟨a, b⟩, _⟩ := num_parts (chk_num h)
  rw [within_iff] at a b
  exact ⟨a, b⟩
theorem noGuest_G0 {g : Guest} (h : noGuest g = true) : g = G0 := by
  unfold noGuest at h
  simp only [Bool.and_eq_true, beq_iff_eq, and_true] at h
  obtain ⟨a, b, d, e, f, k, l, m, n, o⟩ := h
  cases g with
  | mk a1 a2 a3 a4 a5 a6 a7 a8 a9 =>
    cases a7 with
    | mk r v =>
      dsimp only at *
      subst_vars
      rfl
theorem chk_guest {c : Convoy} (h : chkM c = 0) : c.Guest_ = G0 ∨ guestM c.Guest_ = true := by
  obtain ⟨_, _, _, _, e⟩ := num_parts (chk_num h)
  rw [Bool.or_eq_true] at e
  rcases e with e | e
  · exact .inl (noGuest_G0 e)
  · exact .inr e
theorem guest_body {g : Guest} (h : guestM g = true) : (1 ≤ g.ID ∧ g.ID ≤ 99) ∧ (0 ≤ g.S ∧ g.S ≤ 1099511627776) ∧ (0 ≤ g.V ∧ g.V ≤ 2000) ∧ (300 ≤ g.Len ∧ g.Len ≤ 20000) := by
  unfold guestM bodyM at h
  simp only [Bool.and_eq_true, within_iff] at h
  omega
theorem step_loop (c : Convoy) (wants : List Int) (notes : List Note) (sights : List Sight) (h : chkM c = 0) (hl : notes.length ≤ 1000000) (hs : sights.length ≤ 1000000) :
    ∀ (r : List Mate) (i : Nat), c.Mates.drop i = r → i ≤ c.Mates.length → loop (convoy_Step_l1 c wants sights (lettersM notes c.Tick)) ((i : Int), ⟨c.Tick + 1, c.Gap, (matesM c wants notes sights).take i, G0⟩) = some ⟨c.Tick + 1, c.Gap, matesM c wants notes sights, G0⟩ := by
  have hlen := (num_len (chk_num h)).2
  have htk := (chk_tick h).1
  intro r
  induction r with
  | nil =>
    intro i hi hil
    have := drop_nil hi
    refine loop_out ?_
    unfold convoy_Step_l1
    dsimp only
    rw [show decide ((i : Int) < (c.Mates.length : Int)) = false from decide_eq_false (by omega), List.take_of_length_le (by rw [len_mates]; omega)]
    rfl
  | cons m r ih =>
    intro i hi hil
    have hlt := drop_lt hi
    have h0 : c.Mates[i]? = some m := by have := congrArg (fun z => z[0]?) hi; simpa using this
    have mb := chk_mate h h0
    obtain ⟨q1, q2, q3⟩ : (1 ≤ m.ID ∧ m.ID ≤ 99) ∧ (0 ≤ m.S ∧ m.S ≤ 1099511627776) ∧ (0 ≤ m.V ∧ m.V ≤ 2000) := by
      have := mateB_iff.2 mb
      unfold mateM bodyM at this
      simp only [Bool.and_eq_true, within_iff] at this
      omega
    have hsame : Same4 m (believeM c notes sights m) := by
      unfold believeM heardM
      dsimp only
      have key : ∀ (l : List Note) (k : Mate), Same4 m k → Same4 m (l.foldl (fun k n => if countsM n c.Tick && n.From != m.ID then hearM k n (sightM sights m.ID) c.Tick else k) k) := by
        intro l
        induction l with
        | nil => exact fun k hk => hk
        | cons n r ih2 =>
          intro k hk
          rw [List.foldl_cons]
          refine ih2 _ ?_
          split
          · exact hk.trans (hear_same _ _ _ _)
          · exact hk
      exact ((key notes m (Same4.refl m)).trans (forget_same _ _)).trans (see_same _ _) |>.trans (grant_same _ _ _)
    have hstep : convoy_Step_l1 c wants sights (lettersM notes c.Tick) ((i : Int), ⟨c.Tick + 1, c.Gap, (matesM c wants notes sights).take i, G0⟩) = some (.go (((i + 1 : Nat) : Int), ⟨c.Tick + 1, c.Gap, (matesM c wants notes sights).take (i + 1), G0⟩)) := by
      unfold convoy_Step_l1
      dsimp only
      rw [show decide ((i : Int) < (c.Mates.length : Int)) = true from decide_eq_true (by omega), geti_drop hi, w64_id (n := (i : Int) + 1) (by omega)]
      simp only [cond_true, Option.bind_some]
      rw [sight_eq sights m.ID hs, Option.bind_some]
      have ht := thinks_eq c notes sights m hl htk.1 htk.2
      unfold mind at ht
      dsimp only
      rw [ht, Option.bind_some, want_eq, Option.bind_some]
      have hd := drives_eq c.Tick c.Gap (sightM sights m.ID) (believeM c notes sights m) (wantsM wants i) (by rw [hsame.s]; omega) (by rw [hsame.v]; exact q3)
      unfold mind at hd
      rw [hd, Option.bind_some, appc_eq (by rw [List.length_take, len_mates]; simp only [List.length_cons, List.length_nil]; omega), Option.bind_some, List.take_add_one, drove_mates notes sights wants h0]
      rfl
    rw [loop_go hstep]
    exact ih (i + 1) (drop_succ hi) (by omega)
theorem far_any (l : List Mate) (hl : l.length ≤ 1000000) : slices_ContainsFunc_Mate_Mate_convoy_Step_1 l = some (l.any fun m => decide (1099511625776 < m.S)) := by
  unfold slices_ContainsFunc_Mate_Mate_convoy_Step_1 slices_IndexFunc_Mate_Mate_convoy_Step_1
  rw [index_eq l (fun m => decide (1099511625776 < m.S)) (by omega) (fun i a h => by
    have := get_lt h
    unfold slices_IndexFunc_Mate_Mate_convoy_Step_1_l1 convoy_Step_1
    rw [show decide ((i : Int) < (l.length : Int)) = true from decide_eq_true (by omega), geti_some h]
    simp only [cond_true, Option.bind_some, gt_iff_lt]
    cases decide (1099511625776 < a.S) <;> rfl) (by
    unfold slices_IndexFunc_Mate_Mate_convoy_Step_1_l1
    simp)]
  rw [Option.bind_some, idxI_any]
theorem learns_body (c : Convoy) (notes : List Note) (sights : List Sight) : (learnsM c notes sights).ID = c.Guest_.ID ∧ (learnsM c notes sights).S = c.Guest_.S ∧ (learnsM c notes sights).V = c.Guest_.V ∧ (learnsM c notes sights).Len = c.Guest_.Len ∧ (learnsM c notes sights).End = c.Guest_.End := by
  have key : ∀ (a b t : Int) (l : List Note) (g k : Guest), (k.ID = g.ID ∧ k.S = g.S ∧ k.V = g.V ∧ k.Len = g.Len ∧ k.End = g.End) → ((l.foldl (learnM a b t) k).ID = g.ID ∧ (l.foldl (learnM a b t) k).S = g.S ∧ (l.foldl (learnM a b t) k).V = g.V ∧ (l.foldl (learnM a b t) k).Len = g.Len ∧ (l.foldl (learnM a b t) k).End = g.End) := by
    intro a b t l
    induction l with
    | nil => exact fun _ _ h => h
    | cons n r ih =>
      intro g k h
      rw [List.foldl_cons]
      refine ih g _ ?_
      unfold learnM nearM
      split
      · split
        · exact h
        · split <;> exact h
      · exact h
  unfold learnsM
  dsimp only
  have h1 := key (idAt c (besM c).1) (idAt c (besM c).2) c.Tick notes c.Guest_ (if c.Guest_.Ahead ≠ idAt c (besM c).1 then { c.Guest_ with Ahead := 0, Guess_ := ⟨0, 0⟩ } else c.Guest_) (by split <;> exact ⟨rfl, rfl, rfl, rfl, rfl⟩)
  generalize notes.foldl (learnM (idAt c (besM c).1) (idAt c (besM c).2) c.Tick) _ = k at h1
  cases sightM sights k.ID with
  | none => exact h1
  | some x =>
    dsimp only
    split
    · exact h1
    · exact h1
theorem convoy_Step_eq (c : Convoy) (wants : List Int) (notes : List Note) (sights : List Sight) (hl : notes.length ≤ 1000000) (hs : sights.length ≤ 1000000) (hm : c.Mates.length ≤ 1000000) : convoy_Step c wants notes sights = some (stepM c wants notes sights) := by
  unfold convoy_Step stepM
  rw [convoy_Check_eq c hm, Option.bind_some]
  by_cases h : chkM c = 0
  · rw [if_neg (by simpa using h), show (chkM c != 0) = false by simpa using h, cond_false, far_any _ hm, mm2_max]
    have e1 : ∀ X Y : Option (Convoy × Int), ((cond (!(((decide (max (notes.length : Int) (sights.length : Int) > 60)) || (decide (c.Tick ≥ 1099511627776))) || (decide (c.Guest_.S > 1099511625776)))) (some (c.Mates.any fun m => decide (1099511625776 < m.S))) (some default)).bind fun v2 => cond ((((decide (max (notes.length : Int) (sights.length : Int) > 60)) || (decide (c.Tick ≥ 1099511627776))) || (decide (c.Guest_.S > 1099511625776))) || v2) X Y) = if 60 < notes.length ∨ 60 < sights.length ∨ c.Tick = 1099511627776 ∨ farM c = true then X else Y := by
      intro X Y
      rw [cond_some, Option.bind_some]
      refine cond_ite ?_
      have e : ∀ a b d : Bool, (a || cond (!a) b d) = (a || b) := by intro a b d; cases a <;> rfl
      rw [e]
      have htk := (chk_tick h).1
      unfold farM
      simp only [Bool.or_eq_true, decide_eq_true_eq, gt_iff_lt, ge_iff_le]
      constructor
      · rintro (((a | a) | a) | a)
        · by_cases q : 60 < notes.length
          · exact .inl q
          · exact .inr (.inl (by omega))
        · exact .inr (.inr (.inl (by omega)))
        · exact .inr (.inr (.inr (.inl a)))
        · exact .inr (.inr (.inr (.inr a)))
      · rintro (a | a | a | a | a)
        · exact .inl (.inl (.inl (by omega)))
        · exact .inl (.inl (.inl (by omega)))
        · exact .inl (.inl (.inr (by omega)))
        · exact .inl (.inr a)
        · exact .inr a
    refine (e1 _ _).trans ?_
    have htk := (chk_tick h).1
    by_cases hf : 60 < notes.length ∨ 60 < sights.length ∨ c.Tick = 1099511627776 ∨ farM c = true
    · rw [if_pos hf, if_pos hf]; rfl
    · rw [if_neg hf, if_neg hf, post_eq notes htk.1 htk.2 hl, Option.bind_some, w64_id (n := c.Tick + 1) (by omega)]
      have hloop := step_loop c wants notes sights h hl hs _ 0 rfl (by omega)
      rw [show ((0 : Nat) : Int) = 0 from rfl, List.take_zero] at hloop
      refine (congrArg (fun z => Option.bind z _) hloop).trans ?_
      rw [Option.bind_some]
      by_cases hg : c.Guest_.ID = 0
      · rw [if_pos hg, show (c.Guest_.ID == 0) = true by simpa using hg]; rfl
      · rw [if_neg hg, show (c.Guest_.ID == 0) = false by simpa using hg, cond_false, want_eq, Option.bind_some, arrives_eq c notes sights hl hs hm, Option.bind_some]
        dsimp only
        have gb := guest_body (g := c.Guest_) (by
          rcases chk_guest h with e | e
          · rw [e] at hg; exact absurd rfl hg
          · exact e)
        obtain ⟨l1, l2, l3, l4, l5⟩ := learns_body c notes sights
        generalize learnsM c notes sights = g at l1 l2 l3 l4 l5
        cases hj : mergeM c g
        · rw [Bool.not_false, cond_true, rolls_eq _ (by rw [l2]; omega) (by rw [l3]; omega), Option.bind_some, if_neg (by simp)]
        · rw [Bool.not_true, cond_false, convoy_beside_eq c hm, Option.bind_some, if_pos rfl]
          have hd := drives_eq c.Tick c.Gap none (newMate g) (wantsM wants c.Mates.length) (by show 0 ≤ g.S ∧ _; rw [l2]; show _ ∧ g.S ≤ _; rw [l2]; omega) (by show 0 ≤ g.V ∧ g.V ≤ _; rw [l3]; omega)
          have hd' : convoy_mind_drives_b (ConvoyMind.mk (Mate.mk g.ID g.S g.V g.Len g.Ahead g.Guess_ true 0 (Guess.mk 0 0) 0) c.Tick c.Gap (Sight.mk 0 0 0 0 0) false) (wantsM wants c.Mates.length) = some (driveM c.Gap (newMate g) (wantsM wants c.Mates.length)) := hd
          rw [hd', Option.bind_some]
          obtain ⟨b1, b2, _⟩ := besM_lt c
          have hml := num_len (chk_num h)
          rw [w64_id (by omega)]
          unfold insertc
          rw [if_pos (by rw [len_mates]; simp only [List.length_cons, List.length_nil]; omega), Option.bind_some]
          simp
  · rw [if_pos (by simpa using h), show (chkM c != 0) = true by simpa using h]; rfl
end Go.Abs.Convoy

namespace Go.Abs.Convoy
open Go Go.Abs

theorem chk_gb {c : Convoy} (h : chkM c = 0) : guestBad c = false := by
  unfold chkM at h
  split at h
  · rename_i q; exact absurd h q
  · split at h
    · rename_i q; exact absurd h q
    · split at h
      · exact absurd h (by decide)
      · split at h
        · exact absurd h (by decide)
        · rename_i q
          simp only [Bool.or_eq_true, not_or, Bool.not_eq_true] at q
          exact q.2
/-- The kit's convoys are as they should be. -/
theorem base_mate {gap : Int} {l : List Mate} (hc : Chn gap l) (hg : 1 ≤ gap ∧ gap ≤ 3000) (h2 : l.length ≤ 5) {G : Int} {c : Convoy} (hcm : c.Mates = newL l) (hcg : c.Gap = gap) (hct : c.Tick = 0) {i : Nat} {m : Mate} (hm : c.Mates[i]? = some m) : MateI G 0 c i m := by
  rw [hcm] at hm
  have N := new_at hc hm
  have hlt := get_lt hm
  rw [newL_len] at hlt
  obtain ⟨kS, kV, kL⟩ := N.kit
  have gM : GB m.Guess_ := by
    unfold GB
    rcases Nat.eq_zero_or_pos i with z | z
    · rw [N.zero z]; dsimp only; omega
    · obtain ⟨k, _, _, e, _, _, q1, q2, q3⟩ := N.pred z
      rw [e]; dsimp only; omega
  have hw : GB m.WardGuess := by rw [N.wg]; unfold GB; dsimp only; omega
  refine ⟨by rw [N.id]; omega, by rw [hct]; omega, kV, by omega, gM, hw, fun h => ?_, fun h => absurd N.ward h, fun h => absurd N.untl h, by rw [N.untl, hct]; omega, fun h => ?_, fun h => absurd N.untl h, fun k h0 hk => ?_, fun z => by rw [N.ahead, z]; rfl⟩
  · have z : 0 < i := by rw [N.ahead] at h; omega
    obtain ⟨k, e1, e2, e3, _⟩ := N.pred z
    refine ⟨i - 1, k, by omega, by rw [hcm]; exact e1, by rw [e2, N.ahead], ?_⟩
    rw [e3]; exact Lower.refl _
  · have z : 0 < i := by rw [N.ahead] at h; omega
    obtain ⟨k, e1, e2, e3, _, s, _⟩ := N.pred z
    have := gM.num
    rw [hcg]
    exact (safeM_iff (sane5 (by omega))).1 s
  · rw [hcm] at hk
    have N2 := new_at hc hk
    left
    rw [N2.id, N.ahead]; omega
theorem base_inv {b : Bool} {c : Convoy} (K : KitC b c) : ∃ G, Inv G 0 c ∧ c.Tick = 0 ∧ (b = false → c.Guest_ = G0) ∧ (c.Guest_.ID ≠ 0 → c.Guest_.ID = G) ∧ (∀ (i : Nat) m, c.Mates[i]? = some m → m.Trust = true ∧ m.Ward = 0 ∧ m.Until = 0 ∧ m.ID ≠ G ∧ 16000000 ≤ m.S) := by
  obtain ⟨gap, l, hg, hc, hl, hcase⟩ := K.is
  have key : ∀ (G : Int), 70 ≤ G → ∀ c' : Convoy, c'.Mates = newL l → ∀ (i : Nat) m, c'.Mates[i]? = some m → m.Trust = true ∧ m.Ward = 0 ∧ m.Until = 0 ∧ m.ID ≠ G ∧ 16000000 ≤ m.S := fun G hG c' e i m hm => by
    rw [e] at hm
    have N := new_at hc hm
    have hlt := get_lt hm
    rw [newL_len] at hlt
    have := N.kit.1
    exact ⟨N.trust, N.ward, N.untl, by rw [N.id]; omega, this.1⟩
  have dist : ∀ c' : Convoy, c'.Mates = newL l → ∀ (i j : Nat) x y, c'.Mates[i]? = some x → c'.Mates[j]? = some y → x.ID = y.ID → i = j := fun c' e i j x y hx hy hxy => by
    rw [e] at hx hy
    rw [(new_at hc hx).id, (new_at hc hy).id] at hxy
    omega
  rcases hcase with e | ⟨hb, g, g1, g2, g3, g4, e⟩
  · refine ⟨99, ⟨by rw [e]; show (0 : Int) ≤ 0 ∧ (0 : Int) ≤ 1000; omega, by rw [e]; show 1 ≤ gap ∧ gap ≤ 20000; omega, by decide, ?_, ?_, fun i m hm => base_mate hc hg hl.2 (by rw [e]; rfl) (by rw [e]; rfl) (by rw [e]; rfl) hm, dist c (by rw [e]; rfl), .inl (by rw [e]; rfl)⟩, by rw [e]; rfl, fun _ => by rw [e]; rfl, fun h => absurd (by rw [e]; rfl) h, key 99 (by decide) c (by rw [e]; rfl)⟩
    · rw [e]; show 1 ≤ (newL l).length; rw [newL_len]; exact hl.1
    · rw [e, if_pos (by rfl)]; show (newL l).length + 0 ≤ 8; rw [newL_len]; omega
  · have ch := K.chk
    have hid : c.Guest_.ID = g.ID := by rw [e]; rfl
    have hgid : c.Guest_.ID ≠ 0 := by omega
    have gm : guestM c.Guest_ = true := by
      rcases chk_guest ch with q | q
      · rw [q] at hgid; exact absurd rfl hgid
      · exact q
    obtain ⟨b1, b2, b3, b4⟩ := guest_body gm
    have hend : c.Guest_.End ≤ 1099511627776 := by
      unfold guestM at gm
      simp only [Bool.and_eq_true, within_iff] at gm
      exact gm.2.2.2.2.1.2
    have hstop : c.Guest_.S + stopM c.Guest_.V < c.Guest_.End := by
      have := chk_gb ch
      have s2 := stop2000 b3.2
      unfold guestBad at this
      rw [w64_id (by omega)] at this
      simp only [Bool.and_eq_false_iff, bne_eq_false_iff_eq, decide_eq_false_iff_not] at this
      rcases this with q | q
      · exact absurd q hgid
      · omega
    have hS : c.Guest_.S = g.S := by rw [e]; rfl
    refine ⟨g.ID, ⟨by rw [e]; show (0 : Int) ≤ 0 ∧ (0 : Int) ≤ 1000; omega, by rw [e]; show 1 ≤ gap ∧ gap ≤ 20000; omega, by omega, ?_, ?_, fun i m hm => base_mate hc hg hl.2 (by rw [e]; rfl) (by rw [e]; rfl) (by rw [e]; rfl) hm, dist c (by rw [e]; rfl), .inr ?_⟩, by rw [e]; rfl, (fun h => by rw [hb] at h; cases h), fun _ => hid, key g.ID g1.1 c (by rw [e]; rfl)⟩
    · rw [e]; show 1 ≤ (newL l).length; rw [newL_len]; exact hl.1
    · rw [if_neg hgid, e]; show (newL l).length + 1 ≤ 8; rw [newL_len]; omega
    · refine ⟨hid, by omega, fun i m hm => ?_, ?_, b3, b4, hstop, hend, ?_, fun h => absurd (by rw [e]; rfl) h, by rw [e]; show (0 : Int) ≤ 0 ∧ (0 : Int) ≤ 99; omega, by rw [e]; show (0 : Int) ≤ 0 ∧ (0 : Int) ≤ 0 + 30; omega, fun h => absurd (by rw [e]; rfl) h, fun h => absurd (by rw [e]; rfl) h, by rw [e]; rfl⟩
      · rw [e] at hm
        have N := new_at hc (show (newL l)[i]? = some m from hm)
        have hlt := get_lt (show (newL l)[i]? = some m from hm)
        rw [newL_len] at hlt
        rw [N.id]; omega
      · rw [show c.Tick = 0 by rw [e]; rfl]; omega
      · rw [show c.Guest_.Guess_ = ⟨0, 0⟩ by rw [e]; rfl]; unfold GB; dsimp only; omega

/-! ### The kit's numbers, sights and post -/
theorem wanted_ok (n : Int) (h0 : 0 ≤ n) (hn : n ≤ 1000) : ∀ (r : KitRing), 0 ≤ r.at_ → r.at_ ≤ 900000000 → ∃ w r', law09_wanted_o r n = some (w, r') ∧ w.length = n.toNat ∧ 0 ≤ r'.at_ ∧ r'.at_ = r.at_ + n ∧ ∀ x ∈ w, -100 ≤ x ∧ x ≤ 49 := by
  intro r a0 a1
  have key : ∀ (k : Nat) (i : Nat) (w : List Int) (r : KitRing), (i : Int) + k = n → w.length = i → (∀ x ∈ w, -100 ≤ x ∧ x ≤ 49) → 0 ≤ r.at_ → r.at_ + k ≤ 900001000 → ∃ w' r', loop (law09_wanted_o_l1 n) (w, (i : Int), r) = some (w', r') ∧ w'.length = i + k ∧ r'.at_ = r.at_ + k ∧ ∀ x ∈ w', -100 ≤ x ∧ x ≤ 49 := by
    intro k
    induction k with
    | zero =>
      intro i w r hi hw hx _ _
      refine ⟨w, r, loop_out ?_, by omega, by omega, hx⟩
      unfold law09_wanted_o_l1
      dsimp only
      rw [show decide ((i : Int) < n) = false from decide_eq_false (by omega)]; rfl
    | succ k ih =>
      intro i w r hi hw hx b0 b1
      obtain ⟨x, e, x0, x1⟩ := next_ok r (k := 150) b0 (by omega) (by decide) (by decide)
      have hs : law09_wanted_o_l1 n (w, (i : Int), r) = some (.go (w ++ [x - 100], ((i + 1 : Nat) : Int), ⟨r.l, r.at_ + 1⟩)) := by
        unfold law09_wanted_o_l1
        dsimp only
        rw [show decide ((i : Int) < n) = true from decide_eq_true (by omega), cond_true, e, Option.bind_some, w64_id (n := x - 100) (by omega), appc_eq (by simp; omega), Option.bind_some, w64_id (n := (i : Int) + 1) (by omega)]
        rfl
      obtain ⟨w', r', q1, q2, q3, q4⟩ := ih (i + 1) (w ++ [x - 100]) ⟨r.l, r.at_ + 1⟩ (by omega) (by simp [hw]) (fun y hy => by
        rw [List.mem_append, List.mem_singleton] at hy
        rcases hy with hy | hy
        · exact hx y hy
        · omega) (by dsimp only; omega) (by dsimp only; omega)
      exact ⟨w', r', by rw [loop_go hs]; exact q1, by omega, by dsimp only at q3; omega, q4⟩
  obtain ⟨w', r', q1, q2, q3, q4⟩ := key n.toNat 0 [] r (by omega) rfl (by simp) a0 (by omega)
  rw [show ((0 : Nat) : Int) = 0 from rfl] at q1
  refine ⟨w', r', ?_, by omega, by omega, by omega, q4⟩
  unfold law09_wanted_o
  rw [q1]; rfl
theorem ids_ok (c : Convoy) (hl : c.Mates.length ≤ 1000) : loop (law09_looks_o_l1 c) ([c.Guest_.ID], 0) = some (c.Guest_.ID :: c.Mates.map (·.ID)) := by
  have key : ∀ (r : List Mate) (i : Nat) (w : List Int), c.Mates.drop i = r → i ≤ c.Mates.length → w.length = i + 1 → loop (law09_looks_o_l1 c) (w, (i : Int)) = some (w ++ r.map (·.ID)) := by
    intro r
    induction r with
    | nil =>
      intro i w hi hil _
      have := drop_nil hi
      refine (loop_out (t := w) ?_).trans (by simp)
      unfold law09_looks_o_l1
      dsimp only
      rw [show decide ((i : Int) < (c.Mates.length : Int)) = false from decide_eq_false (by omega)]; rfl
    | cons m r ih =>
      intro i w hi hil hw
      have hlt := drop_lt hi
      have hs : law09_looks_o_l1 c (w, (i : Int)) = some (.go (w ++ [m.ID], ((i + 1 : Nat) : Int))) := by
        unfold law09_looks_o_l1
        dsimp only
        rw [show decide ((i : Int) < (c.Mates.length : Int)) = true from decide_eq_true (by omega), geti_drop hi, cond_true, Option.bind_some, appc_eq (by simp; omega), Option.bind_some, w64_id (n := (i : Int) + 1) (by omega)]
        rfl
      rw [loop_go hs, ih (i + 1) _ (drop_succ hi) (by omega) (by simp [hw])]
      simp
  have := key _ 0 [c.Guest_.ID] rfl (by omega) rfl
  rw [show ((0 : Nat) : Int) = 0 from rfl] at this
  rw [this]; rfl
/-- The sights: each is one that Look gives; and all of them, if that is asked. -/
theorem looks_ok (c : Convoy) (all : Bool) (hl : c.Mates.length ≤ 100) (r : KitRing) (a0 : 0 ≤ r.at_) (a1 : r.at_ ≤ 900000000) :
    ∃ s r', law09_looks_o r c all = some (s, r') ∧ s.length ≤ c.Mates.length + 1 ∧ r.at_ ≤ r'.at_ ∧ r'.at_ ≤ r.at_ + 5 * (c.Mates.length + 1) ∧ (∀ x ∈ s, ∃ id l, lookM c id l = (x, 0)) ∧
      (all = true → ∀ (i : Nat) m, c.Mates[i]? = some m → ∀ l : List Int, (lookM c m.ID l).2 = 0 → ∃ x ∈ s, x.By = m.ID) := by
  have hids := ids_ok c (by omega)
  have hlen : (c.Guest_.ID :: c.Mates.map (·.ID)).length = c.Mates.length + 1 := by simp
  generalize hids' : (c.Guest_.ID :: c.Mates.map (·.ID)) = ids at hids hlen
  have look2 : ∀ (id : Int) (l l' : List Int), (lookM c id l).2 = (lookM c id l').2 := by
    intro id l l'
    unfold lookM
    split
    · rfl
    · split
      · rfl
      · split <;> rfl
  have lookBy : ∀ (id : Int) (l : List Int), (lookM c id l).2 = 0 → (lookM c id l).1.By = id := by
    intro id l h
    unfold lookM at h ⊢
    by_cases q : chkM c ≠ 0
    · rw [if_pos q] at h; exact absurd h q
    · rw [if_neg q] at h ⊢
      generalize (if (id != 0 && id == c.Guest_.ID) = true then (besM c).1 else idxI (fun m => m.ID == id) c.Mates - 1) = z at h ⊢
      cases z with
      | negSucc n => exact absurd (show (7 : Int) = 0 from h) (by decide)
      | ofNat a =>
        dsimp only at h ⊢
        cases hm : c.Mates[a]? with
        | none => rw [hm] at h; exact absurd (show (7 : Int) = 0 from h) (by decide)
        | some m => rfl
  have key : ∀ (q : List Int) (i : Nat) (s : List Sight) (r : KitRing), ids.drop i = q → i ≤ ids.length → s.length ≤ i → (∀ x ∈ s, ∃ id l, lookM c id l = (x, 0)) → (all = true → ∀ id ∈ ids.take i, ∀ l : List Int, (lookM c id l).2 = 0 → ∃ x ∈ s, x.By = id) → 0 ≤ r.at_ → r.at_ + 5 * q.length ≤ 900001000 →
      ∃ s' r', loop (law09_looks_o_l2 c all ids) (s, (i : Int), r) = some (s', r') ∧ s'.length ≤ ids.length ∧ r.at_ ≤ r'.at_ ∧ r'.at_ ≤ r.at_ + 5 * q.length ∧ (∀ x ∈ s', ∃ id l, lookM c id l = (x, 0)) ∧ (all = true → ∀ id ∈ ids, ∀ l : List Int, (lookM c id l).2 = 0 → ∃ x ∈ s', x.By = id) := by
    intro q
    induction q with
    | nil =>
      intro i s r hi hil hs hx ha _ _
      have := drop_nil hi
      refine ⟨s, r, loop_out ?_, by omega, by omega, by simp, hx, fun h id hid => ha h id ?_⟩
      · unfold law09_looks_o_l2
        dsimp only
        rw [show decide ((i : Int) < (ids.length : Int)) = false from decide_eq_false (by omega)]; rfl
      · rw [List.take_of_length_le (by omega)]; exact hid
    | cons id q ih =>
      intro i s r hi hil hs hx ha b0 b1
      have hlt := drop_lt hi
      simp only [List.length_cons] at b1
      obtain ⟨x1, e1, _, _⟩ := next_ok r (k := 101) b0 (by omega) (by decide) (by decide)
      obtain ⟨x2, e2, _, _⟩ := next_ok ⟨r.l, r.at_ + 1⟩ (k := 101) (by dsimp only; omega) (by dsimp only; omega) (by decide) (by decide)
      obtain ⟨x3, e3, _, _⟩ := next_ok ⟨r.l, r.at_ + 1 + 1⟩ (k := 6) (by dsimp only; omega) (by dsimp only; omega) (by decide) (by decide)
      obtain ⟨x4, e4, _, _⟩ := next_ok ⟨r.l, r.at_ + 1 + 1 + 1⟩ (k := 6) (by dsimp only; omega) (by dsimp only; omega) (by decide) (by decide)
      obtain ⟨x5, e5, _, _⟩ := next_ok ⟨r.l, r.at_ + 1 + 1 + 1 + 1⟩ (k := 2) (by dsimp only; omega) (by dsimp only; omega) (by decide) (by decide)
      dsimp only at e2 e3 e4 e5
      have hcl : convoy_Look c id [x1, x2, x3, x4] = some (lookM c id [x1, x2, x3, x4]) := convoy_Look_eq c id _ (by omega)
      have hLk := look2 id [x1, x2, x3, x4]
      have hBy := lookBy id [x1, x2, x3, x4]
      generalize hv : lookM c id [x1, x2, x3, x4] = v at hcl hLk hBy
      have htake : ids.take (i + 1) = ids.take i ++ [id] := by
        rw [List.take_add_one, show ids[i]? = some id by have := congrArg (fun z => z[0]?) hi; simpa using this]; rfl
      have hs' : ∃ (s1 : List Sight) (r1 : KitRing), law09_looks_o_l2 c all ids (s, (i : Int), r) = some (.go (s1, ((i + 1 : Nat) : Int), r1)) ∧ (s1 = s ∧ (all = true → v.2 ≠ 0) ∨ s1 = s ++ [v.1] ∧ v.2 = 0) ∧ (r.at_ ≤ r1.at_ ∧ r1.at_ ≤ r.at_ + 5) := by
        unfold law09_looks_o_l2
        dsimp only
        rw [show decide ((i : Int) < (ids.length : Int)) = true from decide_eq_true (by omega), geti_drop hi, cond_true, Option.bind_some, e1, Option.bind_some]
        dsimp only
        rw [e2, Option.bind_some]
        dsimp only
        rw [e3, Option.bind_some]
        dsimp only
        rw [e4, Option.bind_some]
        dsimp only
        rw [hcl, Option.bind_some, e5, w64_id (n := (i : Int) + 1) (by omega), appc_eq (by simp; omega)]
        by_cases hz : v.2 = 0
        · rw [show (v.2 == 0) = true by simpa using hz]
          cases all
          · simp only [Bool.not_false, Bool.and_self, cond_true, Option.bind_some, Bool.false_or, Bool.true_and]
            by_cases h5 : x5 = 0
            · rw [show (x5 == 0) = true by simpa using h5]
              exact ⟨_, _, rfl, .inr ⟨rfl, hz⟩, by dsimp only; omega, by dsimp only; omega⟩
            · rw [show (x5 == 0) = false by simpa using h5]
              exact ⟨_, _, rfl, .inl ⟨rfl, fun h => by cases h⟩, by dsimp only; omega, by dsimp only; omega⟩
          · simp only [Bool.not_true, Bool.and_false, cond_false, Option.bind_some, Bool.true_or, Bool.true_and, cond_true]
            exact ⟨_, _, rfl, .inr ⟨rfl, hz⟩, by dsimp only; omega, by dsimp only; omega⟩
        · rw [show (v.2 == 0) = false by simpa using hz]
          simp only [Bool.false_and, cond_false, Option.bind_some]
          exact ⟨_, _, rfl, .inl ⟨rfl, fun _ => hz⟩, by dsimp only; omega, by dsimp only; omega⟩
      obtain ⟨s1, r1, hgo, hs1, c0, c1⟩ := hs'
      obtain ⟨s', r', q1, q2, q3, q4, q5, q6⟩ := ih (i + 1) s1 r1 (drop_succ hi) (by omega) (by
        rcases hs1 with ⟨e, _⟩ | ⟨e, _⟩
        · rw [e]; omega
        · rw [e, List.length_append]; simp only [List.length_cons, List.length_nil]; omega) (fun x hxx => by
        rcases hs1 with ⟨e, _⟩ | ⟨e, z⟩
        · rw [e] at hxx; exact hx x hxx
        · rw [e, List.mem_append, List.mem_singleton] at hxx
          rcases hxx with hxx | rfl
          · exact hx x hxx
          · exact ⟨id, [x1, x2, x3, x4], by rw [hv, ← z]⟩) (fun h id' hid' l hl0 => by
        rw [htake, List.mem_append, List.mem_singleton] at hid'
        rcases hid' with hid' | rfl
        · obtain ⟨x, hx1, hx2⟩ := ha h id' hid' l hl0
          rcases hs1 with ⟨e, _⟩ | ⟨e, _⟩
          · exact ⟨x, by rw [e]; exact hx1, hx2⟩
          · exact ⟨x, by rw [e]; exact List.mem_append_left _ hx1, hx2⟩
        · have hz : v.2 = 0 := (hLk l).trans hl0
          rcases hs1 with ⟨_, z⟩ | ⟨e, _⟩
          · exact absurd hz (z h)
          · exact ⟨v.1, by rw [e]; simp, hBy hz⟩) (by omega) (by omega)
      refine ⟨s', r', by rw [loop_go hgo]; exact q1, q2, by omega, by simp only [List.length_cons]; omega, q5, q6⟩
  obtain ⟨s', r', q1, q2, q3, q4, q5, q6⟩ := key ids 0 [] r rfl (by omega) (by simp) (by simp) (by simp) a0 (by omega)
  rw [show ((0 : Nat) : Int) = 0 from rfl] at q1
  refine ⟨s', r', ?_, by omega, q3, by omega, q5, fun h i m hm l hl0 => q6 h m.ID ?_ l hl0⟩
  · unfold law09_looks_o
    rw [hids, Option.bind_some, q1]; rfl
  · rw [← hids']
    exact List.mem_cons_of_mem _ (List.mem_map_of_mem (List.mem_of_getElem? hm))
end Go.Abs.Convoy

namespace Go.Abs.Convoy
open Go Go.Abs

theorem newRing_eq (l : List Int) : kit_NewRing_m l = some ⟨l, 0⟩ := rfl
/-- A convoy in which nobody is a ward. -/
structure Free (G : Int) (c : Convoy) : Prop where
  guest : c.Guest_ = G0
  noG : ∀ (i : Nat) m, c.Mates[i]? = some m → m.ID ≠ G
theorem Free.nobel {G T : Int} {c : Convoy} (I : Inv G T c) (F : Free G c) {g : Guess} : ¬ Bel c G g := by
  rintro ⟨r, v, hb, _⟩
  cases hb with
  | mate i m hm hid => exact F.noG i m hm hid
  | guest h h0 => rw [F.guest] at h; exact h0 h.symm
theorem Free.ward {G T : Int} {c : Convoy} (I : Inv G T c) (F : Free G c) {i : Nat} {m : Mate} (M : MateI G T c i m) : m.Ward = 0 ∧ m.Until = 0 := by
  have h1 : m.Ward = 0 := Classical.byContradiction fun h => F.nobel I (M.ward h).2
  exact ⟨h1, Classical.byContradiction fun h => M.untl h h1⟩
theorem Free.not {G T : Int} {c : Convoy} (I : Inv G T c) (F : Free G c) : ¬ c.Guest_.ID = G := by
  rw [F.guest]; exact fun h => I.gpos h.symm
theorem free_step {G T T' : Int} {c d : Convoy} {wants : List Int} {notes : List Note} {sights : List Sight} (I : Inv G T c) (F : Free G c) (t : Told G T c notes sights) (S : StepR G T c wants notes sights d T') :
    d = ⟨c.Tick + 1, c.Gap, matesM c wants notes sights, G0⟩ ∧ Free G d := by
  rcases S.is with ⟨_, e⟩ | ⟨h, _⟩ | ⟨h, _⟩
  · refine ⟨e, by rw [e], fun i m hm => ?_⟩
    rw [e] at hm
    obtain ⟨k, hk, rfl⟩ := of_mates hm
    rw [(mate_step (wants := wants) I t hk).2.2.id]
    exact F.noG i k hk
  · exact absurd h (F.not I)
  · exact absurd h (F.not I)
/-- Hails do no harm to who sights the one ahead. -/
theorem lie_kind {G T : Int} {c : Convoy} (I : Inv G T c) (F : Free G c) {i : Nat} {m : Mate} {x : Option Sight} (hx : 0 < i → x ≠ none) {n : Note} (hn : n.Kind = 1) : Kind1 G T c i m x n := by
  intro _ _ k M _
  obtain ⟨h1, h2⟩ := F.ward I M
  unfold hearM
  rw [if_pos hn]
  unfold hailM
  rw [if_neg (show ¬ (k.Until ≠ 0 ∧ n.From = k.Ward) from fun z => z.1 h2)]
  dsimp only
  split
  · rename_i h
    cases x with
    | some x => dsimp only; split; exact M.setT false; exact M
    | none =>
      have : ¬ 0 < i := fun z => hx z rfl
      exact absurd (M.first (by omega)) h.1
  · exact M
theorem look_there {G T : Int} {c : Convoy} (I : Inv G T c) (F : Free G c) {i : Nat} {m : Mate} (hm : c.Mates[i]? = some m) (hi : 0 < i) (l : List Int) : (lookM c m.ID l).2 = 0 := by
  have hlt := get_lt hm
  have hid := (I.mates i m hm).id
  obtain ⟨k, hk⟩ : ∃ k, c.Mates[i - 1]? = some k := ⟨_, List.getElem?_eq_getElem (by omega)⟩
  unfold lookM
  rw [if_neg (by rw [inv_chk I]; decide), if_neg (by rw [F.guest]; simp [G0])]
  have hx : idxI (fun z : Mate => z.ID == m.ID) c.Mates = (i : Int) := by
    unfold idxI
    rw [show (fun z : Mate => z.ID == m.ID) = idP m.ID from rfl, find_uniq I hm]
  rw [hx, show (i : Int) - 1 = Int.ofNat (i - 1) by show _ = ((i - 1 : Nat) : Int); omega]
  dsimp only
  rw [hk]
theorem look_good {G T : Int} {c : Convoy} (I : Inv G T c) (hS : ∀ (i : Nat) m, c.Mates[i]? = some m → 1000000 ≤ m.S) {id : Int} {l : List Int} {x : Sight} (h : lookM c id l = (x, 0)) : sightP id x = true := by
  have tk := I.tick
  unfold lookM at h
  rw [if_neg (by rw [inv_chk I]; decide)] at h
  split at h
  · cases h
  · rename_i a ha
    split at h
    · cases h
    · rename_i m hm
      simp only [Prod.mk.injEq, and_true] at h
      have M := I.mates a m hm
      have n0 := noise_bd l 0 (show (0 : Int) < 101 by decide)
      have n1 := noise_bd l 1 (show (0 : Int) < 101 by decide)
      have n2 := noise_bd l 2 (show (0 : Int) < 6 by decide)
      have n3 := noise_bd l 3 (show (0 : Int) < 6 by decide)
      have s := M.s; have s2 := hS a m hm; have ln := M.len; have v := M.v
      subst h
      unfold sightP
      simp only [Bool.and_eq_true, decide_eq_true_eq, beq_self_eq_true, true_and]
      omega
theorem find_some {α : Type} {P : α → Bool} {l : List α} {x : α} (h : x ∈ l) (hp : P x = true) : l.find? P ≠ none := by
  intro e
  have := List.find?_eq_none.1 e x h
  exact this hp
theorem lies_notes (lies : List Note) (hl : lies.length ≤ 20) (x1 : Int × KitRing × Convoy) (ht : 0 ≤ x1.2.2.Tick ∧ x1.2.2.Tick ≤ 1000) (hm : 1 ≤ x1.2.2.Mates.length ∧ x1.2.2.Mates.length ≤ 8) :
    ∀ (q : List Note) (i : Nat) (ns : List Note) (r : KitRing), lies.drop i = q → i ≤ lies.length → ns.length = i → (∀ n ∈ ns, n.Kind = 1) → 0 ≤ r.at_ → r.at_ + 3 * q.length ≤ 1000000 →
      ∃ ns' r', loop (law09_ConvoyLies_l2 lies x1) (ns, (i : Int), r) = some (ns', r') ∧ ns'.length = lies.length ∧ (∀ n ∈ ns', n.Kind = 1) ∧ r.at_ ≤ r'.at_ ∧ r'.at_ ≤ r.at_ + 3 * q.length := by
  intro q
  induction q with
  | nil =>
    intro i ns r hi hil hn hk _ _
    have := drop_nil hi
    refine ⟨ns, r, loop_out ?_, by omega, hk, Int.le_refl _, by simp⟩
    unfold law09_ConvoyLies_l2
    dsimp only
    rw [show decide ((i : Int) < (lies.length : Int)) = false from decide_eq_false (by omega)]; rfl
  | cons n q ih =>
    intro i ns r hi hil hn hk b0 b1
    have hlt := drop_lt hi
    simp only [List.length_cons] at b1
    obtain ⟨y1, e1, _, _⟩ := next_ok r (k := 4) b0 (by omega) (by decide) (by decide)
    obtain ⟨y2, e2, _, _⟩ := next_ok ⟨r.l, r.at_ + 1⟩ (k := 2) (by dsimp only; omega) (by dsimp only; omega) (by decide) (by decide)
    obtain ⟨y3, e3, c0, c1⟩ := next_ok ⟨r.l, r.at_ + 1 + 1⟩ (k := (x1.2.2.Mates.length : Int)) (by dsimp only; omega) (by dsimp only; omega) (by omega) (by omega)
    dsimp only at e2 e3
    obtain ⟨j, rfl⟩ : ∃ j : Nat, y3 = (j : Int) := ⟨y3.toNat, (Int.toNat_of_nonneg c0).symm⟩
    have hs : ∃ (n' : Note) (r1 : KitRing), law09_ConvoyLies_l2 lies x1 (ns, (i : Int), r) = some (.go (ns ++ [n'], ((i + 1 : Nat) : Int), r1)) ∧ n'.Kind = 1 ∧ r.at_ ≤ r1.at_ ∧ r1.at_ ≤ r.at_ + 3 := by
      unfold law09_ConvoyLies_l2
      dsimp only
      rw [show decide ((i : Int) < (lies.length : Int)) = true from decide_eq_true (by omega), geti_drop hi, cond_true, Option.bind_some, e1, Option.bind_some]
      dsimp only
      rw [e2, Option.bind_some]
      dsimp only
      rw [e3, Option.bind_some, w64_id (n := (i : Int) + 1) (by omega)]
      dsimp only
      rw [geti_nat (show j < x1.2.2.Mates.length by omega), Option.bind_some]
      cases (y2 == 0 && decide ((x1.2.2.Mates.length : Int) > 0))
      · rw [cond_false, Option.bind_some]
        dsimp only
        rw [appc_eq (by simp; omega), Option.bind_some]
        exact ⟨_, _, rfl, rfl, by dsimp only; omega, by dsimp only; omega⟩
      · rw [cond_true, Option.bind_some]
        dsimp only
        rw [appc_eq (by simp; omega), Option.bind_some]
        exact ⟨_, _, rfl, rfl, by dsimp only; omega, by dsimp only; omega⟩
    obtain ⟨n', r1, hgo, h1, h2, h3⟩ := hs
    obtain ⟨ns', r', q1, q2, q3, q4, q5⟩ := ih (i + 1) (ns ++ [n']) r1 (drop_succ hi) (by omega) (by simp [hn]) (fun z hz => by
      rw [List.mem_append, List.mem_singleton] at hz
      rcases hz with hz | rfl
      · exact hk z hz
      · exact h1) (by omega) (by omega)
    exact ⟨ns', r', by rw [loop_go hgo]; exact q1, q2, q3, by omega, by simp only [List.length_cons]; omega⟩
theorem lies_loop (lies : List Note) (hl : lies.length ≤ 20) : ∀ (n : Nat) (r : KitRing) (c : Convoy) (G T : Int), Inv G T c → Free G c → (∀ (i : Nat) m, c.Mates[i]? = some m → 1000000 ≤ m.S) → c.Tick + n ≤ 100 → 0 ≤ r.at_ → r.at_ + 200 * n ≤ 100000 →
    loop (law09_ConvoyLies_l1 lies) ((n : Int), r, c) = some (.inl ()) := by
  intro n
  induction n with
  | zero =>
    intro r c G T _ _ _ _ _ _
    refine loop_out ?_
    unfold law09_ConvoyLies_l1
    rfl
  | succ n ih =>
    intro r c G T I F hS ht a0 a1
    have tk := I.tick
    have hm : 1 ≤ c.Mates.length ∧ c.Mates.length ≤ 8 := ⟨I.one, by have := I.many; omega⟩
    obtain ⟨ns, r1, e1, n1, n2, n3, n4⟩ := lies_notes lies hl (((n + 1 : Nat) : Int), r, c) tk hm _ 0 [] r rfl (by omega) rfl (by simp) a0 (by simp only [List.drop_zero]; omega)
    rw [show ((0 : Nat) : Int) = 0 from rfl] at e1
    rw [List.drop_zero] at n4
    obtain ⟨w, r2, e2, _, _, w2, _⟩ := wanted_ok (c.Mates.length : Int) (by omega) (by omega) r1 (by omega) (by omega)
    obtain ⟨s, r3, e3, s1, s2, s3, s4, s5⟩ := looks_ok c true (by omega) r2 (by omega) (by omega)
    have hsI : ∀ x ∈ s, SightI G c x := fun x hx => by
      obtain ⟨id, l, h⟩ := s4 x hx
      exact (look_inv I h).1
    have told : Told G T c ns s := by
      refine ⟨fun i m hm' z hz => lie_kind I F (fun hi => ?_) (n2 z hz), fun h => absurd h (F.not I), hsI⟩
      obtain ⟨x, hx, hb⟩ := s5 rfl i m hm' [] (look_there I F hm' hi [])
      obtain ⟨id, l, h⟩ := s4 x hx
      have hid := (look_inv I h).2
      have := look_good I hS h
      rw [← hid, hb] at this
      exact find_some hx this
    obtain ⟨d, T', hst, S⟩ := step_told (wants := w) I told (by omega) (by omega) (by omega)
    obtain ⟨ed, Fd⟩ := free_step I F told S
    have hstep : law09_ConvoyLies_l1 lies (((n + 1 : Nat) : Int), r, c) = some (.go ((n : Int), r3, d)) := by
      unfold law09_ConvoyLies_l1
      dsimp only
      rw [show decide (((n + 1 : Nat) : Int) > 0) = true from decide_eq_true (by omega), cond_true, e1, Option.bind_some]
      dsimp only
      rw [e2, Option.bind_some]
      dsimp only
      rw [e3, Option.bind_some]
      dsimp only
      rw [convoy_Step_eq c w ns s (by omega) (by omega) (by omega), hst, Option.bind_some]
      dsimp only
      rw [kept_eq S.inv, w64_id (by omega), show ((n + 1 : Nat) : Int) - 1 = (n : Int) by omega]
      rfl
    rw [loop_go hstep]
    refine ih r3 d G T' S.inv Fd (fun i m hm' => ?_) (by rw [S.mv.tick]; omega) (by omega) (by omega)
    rw [ed] at hm'
    obtain ⟨k, hk, rfl⟩ := of_mates hm'
    have D := (mate_step (wants := w) I told hk).2.2
    have := hS i k hk
    have := D.v
    rw [D.s]; omega
theorem law09_ConvoyLies_plain (a0 : List Int) (a1 : Int) (a2 : List Note) : law09_ConvoyLies a0 a1 a2 = some true := by
  unfold law09_ConvoyLies
  by_cases hl : (a2.length : Int) > 20
  · rw [show decide ((a2.length : Int) > 20) = true from decide_eq_true hl, cond_true, awake_eq]; rfl
  · rw [show decide ((a2.length : Int) > 20) = false from decide_eq_false hl, cond_false, newRing_eq, Option.bind_some]
    obtain ⟨c, r, e, K, h1, h2, h3⟩ := kit_convoy ⟨a0, 0⟩ false (Int.le_refl _) (show (0 : Int) ≤ 1000 by decide)
    dsimp only at h2 h3
    rw [e, Option.bind_some, (kit_Mod_eq (m := 41) (by decide) (by decide)).1, Option.bind_some]
    have hn := emod_bd a1 (show (0 : Int) < 41 by decide)
    obtain ⟨n, hn'⟩ : ∃ n : Nat, a1 % 41 = (n : Int) := ⟨(a1 % 41).toNat, (Int.toNat_of_nonneg hn.1).symm⟩
    obtain ⟨G, I, t0, g0, _, hM⟩ := base_inv K
    dsimp only
    rw [hn', lies_loop a2 (by omega) n r c G 0 I ⟨g0 rfl, fun i m h => (hM i m h).2.2.2.1⟩ (fun i m h => by have := (hM i m h).2.2.2.2; omega) (by omega) (by omega) (by omega)]
    rw [thenS, awake_eq]; rfl
end Go.Abs.Convoy
