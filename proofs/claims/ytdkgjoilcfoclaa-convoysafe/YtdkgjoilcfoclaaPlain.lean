/-
  Plain facts on the functions: what they compute, and that the law holds of it.
-/
import Derived.Test.YtdkgjoilcfoclaaFns2

set_option maxRecDepth 100000
set_option linter.unusedVariables false
namespace Go.Abs.Convoy
open Go Go.Abs
noncomputable def ref09_sane_l1 (p1 : (List Int)) (x1 : Int) : Option (Stp Int (Sum Unit Bool)) :=
  cond (decide (x1 < (p1.length : Int))) ((geti p1 x1).bind fun v1 => ((cond (!(decide (v1 < (-4398046511104)))) (geti p1 x1) (some default))).bind fun v2 => cond ((decide (v1 < (-4398046511104))) || (decide (v2 > 4398046511104))) (some (.out (.inr false))) (some (.go (w64 (x1 + 1))))) (some (.out (.inl ())))

noncomputable def ref09_sane (p1 : (List Int)) : Option Bool :=
  thenS (loop (ref09_sane_l1 p1) 0) (fun _ => some true) (fun r => some r)

noncomputable def ref09_Age_l1 (p2 : Int) (x1 : (Int × Guess)) : Option (Stp (Int × Guess) Guess) :=
  cond ((decide (x1.1 < p2)) && (decide (x1.1 < 30))) (some (.go ((w64 (x1.1 + 1)), (Guess.mk (w64 (x1.2.R + (mm2 true 0 (w64 (x1.2.V - 90))))) (mm2 true 0 (w64 (x1.2.V - 90))))))) (some (.out x1.2))

noncomputable def ref09_Age (p1 : Guess) (p2 : Int) : Option Guess :=
  (ref09_sane [p1.R, p1.V]).bind fun v1 => cond (!v1) (some (Guess.mk 0 0)) ((loop (ref09_Age_l1 p2) (0, p1)).bind fun y1 => some y1)
end Go.Abs.Convoy

namespace Go.Abs.Convoy
open Go Go.Abs
def convoy_withinc (p1 : Int) (p2 : Int) (p3 : Int) : Option Bool :=
  some ((decide (p2 ≤ p1)) && (decide (p1 ≤ p3)))
theorem convoy_within_le (p1 : Int) (p2 : Int) (p3 : Int) : Le (convoy_withinc p1 p2 p3) (convoy_within p1 p2 p3) := by
  unfold convoy_withinc convoy_within
  repeat' first | exact Le.refl _ | refine Le.bind ?_ fun _ => ?_ | refine Le.cond ?_ ?_ | refine Le.ite ?_ ?_ | refine Le.thenS ?_ (fun _ => ?_) (fun _ => ?_) | refine Le.loop (fun _ => ?_) _ | refine Le.loopL (fun _ _ => ?_) _ _
def convoy_fairBodyc (p1 : Int) (p2 : Int) (p3 : Int) (p4 : Int) : Option Bool :=
  ((cond ((decide (p1 ≥ 1)) && (decide (p1 ≤ 99))) (convoy_withinc p2 0 1099511627776) (some default))).bind fun v1 => ((cond (((decide (p1 ≥ 1)) && (decide (p1 ≤ 99))) && v1) (convoy_withinc p3 0 2000) (some default))).bind fun v2 => ((cond ((((decide (p1 ≥ 1)) && (decide (p1 ≤ 99))) && v1) && v2) (convoy_withinc p4 300 20000) (some default))).bind fun v3 => some (((((decide (p1 ≥ 1)) && (decide (p1 ≤ 99))) && v1) && v2) && v3)
theorem convoy_fairBody_le (p1 : Int) (p2 : Int) (p3 : Int) (p4 : Int) : Le (convoy_fairBodyc p1 p2 p3 p4) (convoy_fairBody p1 p2 p3 p4) := by
  unfold convoy_fairBodyc convoy_fairBody
  repeat' first | exact Le.refl _ | exact convoy_within_le _ _ _ | refine Le.bind ?_ fun _ => ?_ | refine Le.cond ?_ ?_ | refine Le.ite ?_ ?_ | refine Le.thenS ?_ (fun _ => ?_) (fun _ => ?_) | refine Le.loop (fun _ => ?_) _ | refine Le.loopL (fun _ _ => ?_) _ _
def convoy_fairIDc (p1 : Int) : Option Bool :=
  some ((decide (p1 ≥ 0)) && (decide (p1 ≤ 99)))
theorem convoy_fairID_le (p1 : Int) : Le (convoy_fairIDc p1) (convoy_fairID p1) := by
  unfold convoy_fairIDc convoy_fairID
  repeat' first | exact Le.refl _ | refine Le.bind ?_ fun _ => ?_ | refine Le.cond ?_ ?_ | refine Le.ite ?_ ?_ | refine Le.thenS ?_ (fun _ => ?_) (fun _ => ?_) | refine Le.loop (fun _ => ?_) _ | refine Le.loopL (fun _ _ => ?_) _ _
def convoy_fairGuessc (p1 : Guess) : Option Bool :=
  (convoy_withinc p1.R (-20000) 2199023255552).bind fun v1 => ((cond v1 (convoy_withinc p1.V 0 2000) (some default))).bind fun v2 => some (v1 && v2)
theorem convoy_fairGuess_le (p1 : Guess) : Le (convoy_fairGuessc p1) (convoy_fairGuess p1) := by
  unfold convoy_fairGuessc convoy_fairGuess
  repeat' first | exact Le.refl _ | exact convoy_within_le _ _ _ | refine Le.bind ?_ fun _ => ?_ | refine Le.cond ?_ ?_ | refine Le.ite ?_ ?_ | refine Le.thenS ?_ (fun _ => ?_) (fun _ => ?_) | refine Le.loop (fun _ => ?_) _ | refine Le.loopL (fun _ _ => ?_) _ _
def convoy_fairMatec (p1 : Mate) : Option Bool :=
  (convoy_fairBodyc p1.ID p1.S p1.V p1.Len).bind fun v1 => ((cond v1 (convoy_fairIDc p1.Ahead) (some default))).bind fun v2 => ((cond (v1 && v2) (convoy_fairIDc p1.Ward) (some default))).bind fun v3 => ((cond ((v1 && v2) && v3) (convoy_withinc p1.Until 0 2199023255552) (some default))).bind fun v4 => ((cond (((v1 && v2) && v3) && v4) (convoy_fairGuessc p1.Guess_) (some default))).bind fun v5 => ((cond ((((v1 && v2) && v3) && v4) && v5) (convoy_fairGuessc p1.WardGuess) (some default))).bind fun v6 => some (((((v1 && v2) && v3) && v4) && v5) && v6)
theorem convoy_fairMate_le (p1 : Mate) : Le (convoy_fairMatec p1) (convoy_fairMate p1) := by
  unfold convoy_fairMatec convoy_fairMate
  repeat' first | exact Le.refl _ | exact convoy_fairBody_le _ _ _ _ | exact convoy_fairID_le _ | exact convoy_within_le _ _ _ | exact convoy_fairGuess_le _ | refine Le.bind ?_ fun _ => ?_ | refine Le.cond ?_ ?_ | refine Le.ite ?_ ?_ | refine Le.thenS ?_ (fun _ => ?_) (fun _ => ?_) | refine Le.loop (fun _ => ?_) _ | refine Le.loopL (fun _ _ => ?_) _ _
def convoy_numbers_1c (p1 : Mate) : Option Bool :=
  (convoy_fairMatec p1).bind fun v1 => some (!v1)
theorem convoy_numbers_1_le (p1 : Mate) : Le (convoy_numbers_1c p1) (convoy_numbers_1 p1) := by
  unfold convoy_numbers_1c convoy_numbers_1
  repeat' first | exact Le.refl _ | exact convoy_fairMate_le _ | refine Le.bind ?_ fun _ => ?_ | refine Le.cond ?_ ?_ | refine Le.ite ?_ ?_ | refine Le.thenS ?_ (fun _ => ?_) (fun _ => ?_) | refine Le.loop (fun _ => ?_) _ | refine Le.loopL (fun _ _ => ?_) _ _
def slices_IndexFunc_Mate_Mate_convoy_numbers_1_l1c (p1 : (List Mate)) (x1 : Int) : Option (Stp Int (Sum Unit Int)) :=
  cond (decide (x1 < (p1.length : Int))) ((geti p1 x1).bind fun v1 => (convoy_numbers_1c v1).bind fun v2 => cond v2 (some (.out (.inr x1))) (some (.go (w64 (x1 + 1))))) (some (.out (.inl ())))
theorem slices_IndexFunc_Mate_Mate_convoy_numbers_1_l1_le (p1 : (List Mate)) (x1 : Int) : Le (slices_IndexFunc_Mate_Mate_convoy_numbers_1_l1c p1 x1) (slices_IndexFunc_Mate_Mate_convoy_numbers_1_l1 p1 x1) := by
  unfold slices_IndexFunc_Mate_Mate_convoy_numbers_1_l1c slices_IndexFunc_Mate_Mate_convoy_numbers_1_l1
  repeat' first | exact Le.refl _ | exact convoy_numbers_1_le _ | refine Le.bind ?_ fun _ => ?_ | refine Le.cond ?_ ?_ | refine Le.ite ?_ ?_ | refine Le.thenS ?_ (fun _ => ?_) (fun _ => ?_) | refine Le.loop (fun _ => ?_) _ | refine Le.loopL (fun _ _ => ?_) _ _
def slices_IndexFunc_Mate_Mate_convoy_numbers_1c (p1 : (List Mate)) : Option Int :=
  thenS (loopF (slices_IndexFunc_Mate_Mate_convoy_numbers_1_l1c p1) 0) (fun _ => some (-1)) (fun r => some r)
theorem slices_IndexFunc_Mate_Mate_convoy_numbers_1_le (p1 : (List Mate)) : Le (slices_IndexFunc_Mate_Mate_convoy_numbers_1c p1) (slices_IndexFunc_Mate_Mate_convoy_numbers_1 p1) := by
  unfold slices_IndexFunc_Mate_Mate_convoy_numbers_1c slices_IndexFunc_Mate_Mate_convoy_numbers_1
  repeat' first | exact Le.refl _ | exact slices_IndexFunc_Mate_Mate_convoy_numbers_1_l1_le _ _ | refine Le.bind ?_ fun _ => ?_ | refine Le.cond ?_ ?_ | refine Le.ite ?_ ?_ | refine Le.thenS ?_ (fun _ => ?_) (fun _ => ?_) | refine Le.loop (fun _ => ?_) _ | refine Le.loopL (fun _ _ => ?_) _ _
def slices_ContainsFunc_Mate_Mate_convoy_numbers_1c (p1 : (List Mate)) : Option Bool :=
  (slices_IndexFunc_Mate_Mate_convoy_numbers_1c p1).bind fun v1 => some (decide (v1 ≥ 0))
theorem slices_ContainsFunc_Mate_Mate_convoy_numbers_1_le (p1 : (List Mate)) : Le (slices_ContainsFunc_Mate_Mate_convoy_numbers_1c p1) (slices_ContainsFunc_Mate_Mate_convoy_numbers_1 p1) := by
  unfold slices_ContainsFunc_Mate_Mate_convoy_numbers_1c slices_ContainsFunc_Mate_Mate_convoy_numbers_1
  repeat' first | exact Le.refl _ | exact slices_IndexFunc_Mate_Mate_convoy_numbers_1_le _ | refine Le.bind ?_ fun _ => ?_ | refine Le.cond ?_ ?_ | refine Le.ite ?_ ?_ | refine Le.thenS ?_ (fun _ => ?_) (fun _ => ?_) | refine Le.loop (fun _ => ?_) _ | refine Le.loopL (fun _ _ => ?_) _ _
def convoy_fairGuestc (p1 : Guest) : Option Bool :=
  cond (p1.ID == 0) (some (p1.ID == 0 && (p1.S == 0 && (p1.V == 0 && (p1.Len == 0 && (p1.End == 0 && (p1.Ahead == 0 && (p1.Guess_.R == 0 && (p1.Guess_.V == 0 && (p1.From == 0 && (p1.Until == 0 && true))))))))))) ((convoy_fairBodyc p1.ID p1.S p1.V p1.Len).bind fun v1 => ((cond v1 (convoy_fairIDc p1.Ahead) (some default))).bind fun v2 => ((cond (v1 && v2) (convoy_fairIDc p1.From) (some default))).bind fun v3 => ((cond ((v1 && v2) && v3) (convoy_withinc p1.Until 0 2199023255552) (some default))).bind fun v4 => ((cond (((v1 && v2) && v3) && v4) (convoy_withinc p1.End 0 1099511627776) (some default))).bind fun v5 => ((cond ((((v1 && v2) && v3) && v4) && v5) (convoy_fairGuessc p1.Guess_) (some default))).bind fun v6 => some (((((v1 && v2) && v3) && v4) && v5) && v6))
theorem convoy_fairGuest_le (p1 : Guest) : Le (convoy_fairGuestc p1) (convoy_fairGuest p1) := by
  unfold convoy_fairGuestc convoy_fairGuest
  repeat' first | exact Le.refl _ | exact convoy_fairBody_le _ _ _ _ | exact convoy_fairID_le _ | exact convoy_within_le _ _ _ | exact convoy_fairGuess_le _ | refine Le.bind ?_ fun _ => ?_ | refine Le.cond ?_ ?_ | refine Le.ite ?_ ?_ | refine Le.thenS ?_ (fun _ => ?_) (fun _ => ?_) | refine Le.loop (fun _ => ?_) _ | refine Le.loopL (fun _ _ => ?_) _ _
def convoy_numbersc (p1 : Convoy) : Option Int :=
  (cond (!(p1.Guest_.ID == 0 && (p1.Guest_.S == 0 && (p1.Guest_.V == 0 && (p1.Guest_.Len == 0 && (p1.Guest_.End == 0 && (p1.Guest_.Ahead == 0 && (p1.Guest_.Guess_.R == 0 && (p1.Guest_.Guess_.V == 0 && (p1.Guest_.From == 0 && (p1.Guest_.Until == 0 && true))))))))))) (some (w64 ((p1.Mates.length : Int) + 1))) (some (p1.Mates.length : Int))).bind fun y1 => (convoy_withinc p1.Tick 0 1099511627776).bind fun v1 => ((cond (!(!v1)) (convoy_withinc p1.Gap 1 20000) (some default))).bind fun v2 => cond ((!v1) || (!v2)) (some 2) (cond ((p1.Mates.length : Int) == 0) (some 6) (cond (decide (y1 > 8)) (some 8) ((slices_ContainsFunc_Mate_Mate_convoy_numbers_1c p1.Mates).bind fun v3 => ((cond (!v3) (convoy_fairGuestc p1.Guest_) (some default))).bind fun v4 => cond (v3 || (!v4)) (some 2) (some 0))))
theorem convoy_numbers_le (p1 : Convoy) : Le (convoy_numbersc p1) (convoy_numbers p1) := by
  unfold convoy_numbersc convoy_numbers
  repeat' first | exact Le.refl _ | exact convoy_within_le _ _ _ | exact slices_ContainsFunc_Mate_Mate_convoy_numbers_1_le _ | exact convoy_fairGuest_le _ | refine Le.bind ?_ fun _ => ?_ | refine Le.cond ?_ ?_ | refine Le.ite ?_ ?_ | refine Le.thenS ?_ (fun _ => ?_) (fun _ => ?_) | refine Le.loop (fun _ => ?_) _ | refine Le.loopL (fun _ _ => ?_) _ _
def convoy_rearc (p1 : Mate) : Option Int :=
  some (w64 (p1.S - p1.Len))
theorem convoy_rear_le (p1 : Mate) : Le (convoy_rearc p1) (convoy_rear p1) := by
  unfold convoy_rearc convoy_rear
  repeat' first | exact Le.refl _ | refine Le.bind ?_ fun _ => ?_ | refine Le.cond ?_ ?_ | refine Le.ite ?_ ?_ | refine Le.thenS ?_ (fun _ => ?_) (fun _ => ?_) | refine Le.loop (fun _ => ?_) _ | refine Le.loopL (fun _ _ => ?_) _ _
def convoy_orders_l2c (p1 : Convoy) (x2 : Int) : Option (Stp Int (Sum Unit Int)) :=
  cond (decide (x2 < (p1.Mates.length : Int))) ((geti p1.Mates x2).bind fun v2 => ((cond (decide (x2 > 0)) (geti p1.Mates (w64 (x2 - 1))) (some default))).bind fun v3 => ((cond (decide (x2 > 0)) (convoy_rearc v3) (some default))).bind fun v4 => cond ((decide (x2 > 0)) && (decide (v2.S ≥ v4))) (some (.out (.inr 11))) (some (.go (w64 (x2 + 1))))) (some (.out (.inl ())))
theorem convoy_orders_l2_le (p1 : Convoy) (x2 : Int) : Le (convoy_orders_l2c p1 x2) (convoy_orders_l2 p1 x2) := by
  unfold convoy_orders_l2c convoy_orders_l2
  repeat' first | exact Le.refl _ | exact convoy_rear_le _ | refine Le.bind ?_ fun _ => ?_ | refine Le.cond ?_ ?_ | refine Le.ite ?_ ?_ | refine Le.thenS ?_ (fun _ => ?_) (fun _ => ?_) | refine Le.loop (fun _ => ?_) _ | refine Le.loopL (fun _ _ => ?_) _ _
def convoy_orders_l1c (p1 : Convoy) (x1 : (Int × (List Int))) : Option (Stp (Int × (List Int)) (Sum Unit Int)) :=
  cond (decide (x1.1 < (p1.Mates.length : Int))) ((geti p1.Mates x1.1).bind fun v1 => cond (x1.2.contains v1.ID) (some (.out (.inr 9))) (some (.go ((w64 (x1.1 + 1)), (insm x1.2 v1.ID))))) (some (.out (.inl ())))
theorem convoy_orders_l1_le (p1 : Convoy) (x1 : (Int × (List Int))) : Le (convoy_orders_l1c p1 x1) (convoy_orders_l1 p1 x1) := by
  unfold convoy_orders_l1c convoy_orders_l1
  repeat' first | exact Le.refl _ | refine Le.bind ?_ fun _ => ?_ | refine Le.cond ?_ ?_ | refine Le.ite ?_ ?_ | refine Le.thenS ?_ (fun _ => ?_) (fun _ => ?_) | refine Le.loop (fun _ => ?_) _ | refine Le.loopL (fun _ _ => ?_) _ _
def convoy_ordersc (p1 : Convoy) : Option Int :=
  thenS (loopF (convoy_orders_l1c p1) (0, (insm ([] : List Int) p1.Guest_.ID))) (fun _ => thenS (loopF (convoy_orders_l2c p1) 0) (fun _ => some 0) (fun r => some r)) (fun r => some r)
theorem convoy_orders_le (p1 : Convoy) : Le (convoy_ordersc p1) (convoy_orders p1) := by
  unfold convoy_ordersc convoy_orders
  repeat' first | exact Le.refl _ | exact convoy_orders_l1_le _ _ | exact convoy_orders_l2_le _ _ | refine Le.bind ?_ fun _ => ?_ | refine Le.cond ?_ ?_ | refine Le.ite ?_ ?_ | refine Le.thenS ?_ (fun _ => ?_) (fun _ => ?_) | refine Le.loop (fun _ => ?_) _ | refine Le.loopL (fun _ _ => ?_) _ _
def convoy_sane_1c (p1 : Int) : Option Bool :=
  (convoy_withinc p1 (-4398046511104) 4398046511104).bind fun v1 => some (!v1)
theorem convoy_sane_1_le (p1 : Int) : Le (convoy_sane_1c p1) (convoy_sane_1 p1) := by
  unfold convoy_sane_1c convoy_sane_1
  repeat' first | exact Le.refl _ | exact convoy_within_le _ _ _ | refine Le.bind ?_ fun _ => ?_ | refine Le.cond ?_ ?_ | refine Le.ite ?_ ?_ | refine Le.thenS ?_ (fun _ => ?_) (fun _ => ?_) | refine Le.loop (fun _ => ?_) _ | refine Le.loopL (fun _ _ => ?_) _ _
def slices_IndexFunc_int64_int64_convoy_sane_1_l1c (p1 : (List Int)) (x1 : Int) : Option (Stp Int (Sum Unit Int)) :=
  cond (decide (x1 < (p1.length : Int))) ((geti p1 x1).bind fun v1 => (convoy_sane_1c v1).bind fun v2 => cond v2 (some (.out (.inr x1))) (some (.go (w64 (x1 + 1))))) (some (.out (.inl ())))
theorem slices_IndexFunc_int64_int64_convoy_sane_1_l1_le (p1 : (List Int)) (x1 : Int) : Le (slices_IndexFunc_int64_int64_convoy_sane_1_l1c p1 x1) (slices_IndexFunc_int64_int64_convoy_sane_1_l1 p1 x1) := by
  unfold slices_IndexFunc_int64_int64_convoy_sane_1_l1c slices_IndexFunc_int64_int64_convoy_sane_1_l1
  repeat' first | exact Le.refl _ | exact convoy_sane_1_le _ | refine Le.bind ?_ fun _ => ?_ | refine Le.cond ?_ ?_ | refine Le.ite ?_ ?_ | refine Le.thenS ?_ (fun _ => ?_) (fun _ => ?_) | refine Le.loop (fun _ => ?_) _ | refine Le.loopL (fun _ _ => ?_) _ _
def slices_IndexFunc_int64_int64_convoy_sane_1c (p1 : (List Int)) : Option Int :=
  thenS (loopF (slices_IndexFunc_int64_int64_convoy_sane_1_l1c p1) 0) (fun _ => some (-1)) (fun r => some r)
theorem slices_IndexFunc_int64_int64_convoy_sane_1_le (p1 : (List Int)) : Le (slices_IndexFunc_int64_int64_convoy_sane_1c p1) (slices_IndexFunc_int64_int64_convoy_sane_1 p1) := by
  unfold slices_IndexFunc_int64_int64_convoy_sane_1c slices_IndexFunc_int64_int64_convoy_sane_1
  repeat' first | exact Le.refl _ | exact slices_IndexFunc_int64_int64_convoy_sane_1_l1_le _ _ | refine Le.bind ?_ fun _ => ?_ | refine Le.cond ?_ ?_ | refine Le.ite ?_ ?_ | refine Le.thenS ?_ (fun _ => ?_) (fun _ => ?_) | refine Le.loop (fun _ => ?_) _ | refine Le.loopL (fun _ _ => ?_) _ _
def slices_ContainsFunc_int64_int64_convoy_sane_1c (p1 : (List Int)) : Option Bool :=
  (slices_IndexFunc_int64_int64_convoy_sane_1c p1).bind fun v1 => some (decide (v1 ≥ 0))
theorem slices_ContainsFunc_int64_int64_convoy_sane_1_le (p1 : (List Int)) : Le (slices_ContainsFunc_int64_int64_convoy_sane_1c p1) (slices_ContainsFunc_int64_int64_convoy_sane_1 p1) := by
  unfold slices_ContainsFunc_int64_int64_convoy_sane_1c slices_ContainsFunc_int64_int64_convoy_sane_1
  repeat' first | exact Le.refl _ | exact slices_IndexFunc_int64_int64_convoy_sane_1_le _ | refine Le.bind ?_ fun _ => ?_ | refine Le.cond ?_ ?_ | refine Le.ite ?_ ?_ | refine Le.thenS ?_ (fun _ => ?_) (fun _ => ?_) | refine Le.loop (fun _ => ?_) _ | refine Le.loopL (fun _ _ => ?_) _ _
def convoy_sanec (p1 : (List Int)) : Option Bool :=
  (slices_ContainsFunc_int64_int64_convoy_sane_1c p1).bind fun v1 => some (!v1)
theorem convoy_sane_le (p1 : (List Int)) : Le (convoy_sanec p1) (convoy_sane p1) := by
  unfold convoy_sanec convoy_sane
  repeat' first | exact Le.refl _ | exact slices_ContainsFunc_int64_int64_convoy_sane_1_le _ | refine Le.bind ?_ fun _ => ?_ | refine Le.cond ?_ ?_ | refine Le.ite ?_ ?_ | refine Le.thenS ?_ (fun _ => ?_) (fun _ => ?_) | refine Le.loop (fun _ => ?_) _ | refine Le.loopL (fun _ _ => ?_) _ _
def world_Stopc (p1 : Int) (p2 : Int) : Option Int :=
  cond ((decide (p1 < 1)) || (decide (p2 < 1))) (some 0) ((quoc .i64 (w64 ((mm2 false p1 1000000) - 1)) (mm2 false p2 1000000)).bind fun v1 => some (w64 ((w64 (v1 * (mm2 false p1 1000000))) - (w64 ((mm2 false p2 1000000) * (w64 ((w64 (v1 * (w64 (v1 + 1)))).tdiv 2)))))))
theorem world_Stop_le (p1 : Int) (p2 : Int) : Le (world_Stopc p1 p2) (world_Stop p1 p2) := by
  unfold world_Stopc world_Stop
  repeat' first | exact Le.refl _ | refine Le.bind ?_ fun _ => ?_ | refine Le.cond ?_ ?_ | refine Le.ite ?_ ?_ | refine Le.thenS ?_ (fun _ => ?_) (fun _ => ?_) | refine Le.loop (fun _ => ?_) _ | refine Le.loopL (fun _ _ => ?_) _ _
def convoy_stopc (p1 : Int) : Option Int :=
  (world_Stopc p1 90).bind fun v1 => some v1
theorem convoy_stop_le (p1 : Int) : Le (convoy_stopc p1) (convoy_stop p1) := by
  unfold convoy_stopc convoy_stop
  repeat' first | exact Le.refl _ | exact world_Stop_le _ _ | refine Le.bind ?_ fun _ => ?_ | refine Le.cond ?_ ?_ | refine Le.ite ?_ ?_ | refine Le.thenS ?_ (fun _ => ?_) (fun _ => ?_) | refine Le.loop (fun _ => ?_) _ | refine Le.loopL (fun _ _ => ?_) _ _
def convoy_endc (p1 : Guess) : Option Int :=
  (convoy_stopc p1.V).bind fun v1 => some (w64 (p1.R + v1))
theorem convoy_end_le (p1 : Guess) : Le (convoy_endc p1) (convoy_end p1) := by
  unfold convoy_endc convoy_end
  repeat' first | exact Le.refl _ | exact convoy_stop_le _ | refine Le.bind ?_ fun _ => ?_ | refine Le.cond ?_ ?_ | refine Le.ite ?_ ?_ | refine Le.thenS ?_ (fun _ => ?_) (fun _ => ?_) | refine Le.loop (fun _ => ?_) _ | refine Le.loopL (fun _ _ => ?_) _ _
def convoy_Safec (p1 : Int) (p2 : Int) (p3 : Int) (p4 : Guess) : Option Bool :=
  (convoy_sanec [p1, p2, p3, p4.R, p4.V]).bind fun v1 => ((cond (v1 && (decide (p1 ≤ (w64 (p4.R - p3))))) (convoy_stopc p2) (some default))).bind fun v2 => ((cond (v1 && (decide (p1 ≤ (w64 (p4.R - p3))))) (convoy_endc p4) (some default))).bind fun v3 => some ((v1 && (decide (p1 ≤ (w64 (p4.R - p3))))) && (decide ((w64 (p1 + v2)) ≤ (w64 (v3 - p3)))))
theorem convoy_Safe_le (p1 : Int) (p2 : Int) (p3 : Int) (p4 : Guess) : Le (convoy_Safec p1 p2 p3 p4) (convoy_Safe p1 p2 p3 p4) := by
  unfold convoy_Safec convoy_Safe
  repeat' first | exact Le.refl _ | exact convoy_sane_le _ | exact convoy_stop_le _ | exact convoy_end_le _ | refine Le.bind ?_ fun _ => ?_ | refine Le.cond ?_ ?_ | refine Le.ite ?_ ?_ | refine Le.thenS ?_ (fun _ => ?_) (fun _ => ?_) | refine Le.loop (fun _ => ?_) _ | refine Le.loopL (fun _ _ => ?_) _ _
def convoy_keepsc (p1 : Int) (p2 : Mate) (p3 : Int) (p4 : Int) (p5 : Guess) (p6 : Guess) : Option Bool :=
  ((cond (!(p2.Ahead == 0)) (convoy_Safec p3 p4 p1 p5) (some default))).bind fun v1 => ((cond (((p2.Ahead == 0) || v1) && (!(p2.Until == 0))) (convoy_Safec p3 p4 p1 p6) (some default))).bind fun v2 => some (((p2.Ahead == 0) || v1) && ((p2.Until == 0) || v2))
theorem convoy_keeps_le (p1 : Int) (p2 : Mate) (p3 : Int) (p4 : Int) (p5 : Guess) (p6 : Guess) : Le (convoy_keepsc p1 p2 p3 p4 p5 p6) (convoy_keeps p1 p2 p3 p4 p5 p6) := by
  unfold convoy_keepsc convoy_keeps
  repeat' first | exact Le.refl _ | exact convoy_Safe_le _ _ _ _ | refine Le.bind ?_ fun _ => ?_ | refine Le.cond ?_ ?_ | refine Le.ite ?_ ?_ | refine Le.thenS ?_ (fun _ => ?_) (fun _ => ?_) | refine Le.loop (fun _ => ?_) _ | refine Le.loopL (fun _ _ => ?_) _ _
def convoy_Check_1_bc (p1 : Mate) (p2 : Convoy) : Option Bool :=
  (convoy_keepsc p2.Gap p1 p1.S p1.V p1.Guess_ p1.WardGuess).bind fun v1 => some (!v1)
theorem convoy_Check_1_b_le (p1 : Mate) (p2 : Convoy) : Le (convoy_Check_1_bc p1 p2) (convoy_Check_1_b p1 p2) := by
  unfold convoy_Check_1_bc convoy_Check_1_b
  repeat' first | exact Le.refl _ | exact convoy_keeps_le _ _ _ _ _ _ | refine Le.bind ?_ fun _ => ?_ | refine Le.cond ?_ ?_ | refine Le.ite ?_ ?_ | refine Le.thenS ?_ (fun _ => ?_) (fun _ => ?_) | refine Le.loop (fun _ => ?_) _ | refine Le.loopL (fun _ _ => ?_) _ _
def slices_IndexFunc_Mate_Mate_convoy_Check_1b_l1c (p1 : (List Mate)) (p2 : Convoy) (x1 : Int) : Option (Stp Int (Sum Unit Int)) :=
  cond (decide (x1 < (p1.length : Int))) ((geti p1 x1).bind fun v1 => (convoy_Check_1_bc v1 p2).bind fun v2 => cond v2 (some (.out (.inr x1))) (some (.go (w64 (x1 + 1))))) (some (.out (.inl ())))
theorem slices_IndexFunc_Mate_Mate_convoy_Check_1b_l1_le (p1 : (List Mate)) (p2 : Convoy) (x1 : Int) : Le (slices_IndexFunc_Mate_Mate_convoy_Check_1b_l1c p1 p2 x1) (slices_IndexFunc_Mate_Mate_convoy_Check_1b_l1 p1 p2 x1) := by
  unfold slices_IndexFunc_Mate_Mate_convoy_Check_1b_l1c slices_IndexFunc_Mate_Mate_convoy_Check_1b_l1
  repeat' first | exact Le.refl _ | exact convoy_Check_1_b_le _ _ | refine Le.bind ?_ fun _ => ?_ | refine Le.cond ?_ ?_ | refine Le.ite ?_ ?_ | refine Le.thenS ?_ (fun _ => ?_) (fun _ => ?_) | refine Le.loop (fun _ => ?_) _ | refine Le.loopL (fun _ _ => ?_) _ _
def slices_IndexFunc_Mate_Mate_convoy_Check_1bc (p1 : (List Mate)) (p2 : Convoy) : Option Int :=
  thenS (loopF (slices_IndexFunc_Mate_Mate_convoy_Check_1b_l1c p1 p2) 0) (fun _ => some (-1)) (fun r => some r)
theorem slices_IndexFunc_Mate_Mate_convoy_Check_1b_le (p1 : (List Mate)) (p2 : Convoy) : Le (slices_IndexFunc_Mate_Mate_convoy_Check_1bc p1 p2) (slices_IndexFunc_Mate_Mate_convoy_Check_1b p1 p2) := by
  unfold slices_IndexFunc_Mate_Mate_convoy_Check_1bc slices_IndexFunc_Mate_Mate_convoy_Check_1b
  repeat' first | exact Le.refl _ | exact slices_IndexFunc_Mate_Mate_convoy_Check_1b_l1_le _ _ _ | refine Le.bind ?_ fun _ => ?_ | refine Le.cond ?_ ?_ | refine Le.ite ?_ ?_ | refine Le.thenS ?_ (fun _ => ?_) (fun _ => ?_) | refine Le.loop (fun _ => ?_) _ | refine Le.loopL (fun _ _ => ?_) _ _
def slices_ContainsFunc_Mate_Mate_convoy_Check_1bc (p1 : (List Mate)) (p2 : Convoy) : Option Bool :=
  (slices_IndexFunc_Mate_Mate_convoy_Check_1bc p1 p2).bind fun v1 => some (decide (v1 ≥ 0))
theorem slices_ContainsFunc_Mate_Mate_convoy_Check_1b_le (p1 : (List Mate)) (p2 : Convoy) : Le (slices_ContainsFunc_Mate_Mate_convoy_Check_1bc p1 p2) (slices_ContainsFunc_Mate_Mate_convoy_Check_1b p1 p2) := by
  unfold slices_ContainsFunc_Mate_Mate_convoy_Check_1bc slices_ContainsFunc_Mate_Mate_convoy_Check_1b
  repeat' first | exact Le.refl _ | exact slices_IndexFunc_Mate_Mate_convoy_Check_1b_le _ _ | refine Le.bind ?_ fun _ => ?_ | refine Le.cond ?_ ?_ | refine Le.ite ?_ ?_ | refine Le.thenS ?_ (fun _ => ?_) (fun _ => ?_) | refine Le.loop (fun _ => ?_) _ | refine Le.loopL (fun _ _ => ?_) _ _
def convoy_Check_l1c (p1 : Convoy) (x1 : Int) : Option (Stp Int (Sum Unit Int)) :=
  cond (decide (x1 < (p1.Mates.length : Int))) ((geti p1.Mates x1).bind fun v3 => cond ((((x1 == 0) && (v3.Ahead != 0)) || (((decide (x1 > 0)) && (v3.Until == 0)) && (v3.Ahead == 0))) || ((v3.Ward == 0) && (v3.Until != 0))) (some (.out (.inr 10))) (some (.go (w64 (x1 + 1))))) (some (.out (.inl ())))
theorem convoy_Check_l1_le (p1 : Convoy) (x1 : Int) : Le (convoy_Check_l1c p1 x1) (convoy_Check_l1 p1 x1) := by
  unfold convoy_Check_l1c convoy_Check_l1
  repeat' first | exact Le.refl _ | refine Le.bind ?_ fun _ => ?_ | refine Le.cond ?_ ?_ | refine Le.ite ?_ ?_ | refine Le.thenS ?_ (fun _ => ?_) (fun _ => ?_) | refine Le.loop (fun _ => ?_) _ | refine Le.loopL (fun _ _ => ?_) _ _
def convoy_Checkc (p1 : Convoy) : Option Int :=
  (convoy_numbersc p1).bind fun v1 => cond (v1 != 0) (some v1) ((convoy_ordersc p1).bind fun v2 => cond (v2 != 0) (some v2) (thenS (loopF (convoy_Check_l1c p1) 0) (fun _ => (slices_ContainsFunc_Mate_Mate_convoy_Check_1bc p1.Mates p1).bind fun v4 => ((cond ((!v4) && (p1.Guest_.ID != 0)) (convoy_stopc p1.Guest_.V) (some default))).bind fun v5 => cond (v4 || ((p1.Guest_.ID != 0) && (decide ((w64 (p1.Guest_.S + v5)) ≥ p1.Guest_.End)))) (some 12) (some 0)) (fun r => some r)))
theorem convoy_Check_le (p1 : Convoy) : Le (convoy_Checkc p1) (convoy_Check p1) := by
  unfold convoy_Checkc convoy_Check
  repeat' first | exact Le.refl _ | exact convoy_numbers_le _ | exact convoy_orders_le _ | exact convoy_Check_l1_le _ _ | exact slices_ContainsFunc_Mate_Mate_convoy_Check_1b_le _ _ | exact convoy_stop_le _ | refine Le.bind ?_ fun _ => ?_ | refine Le.cond ?_ ?_ | refine Le.ite ?_ ?_ | refine Le.thenS ?_ (fun _ => ?_) (fun _ => ?_) | refine Le.loop (fun _ => ?_) _ | refine Le.loopL (fun _ _ => ?_) _ _
def convoy_New_l1c (p2 : (List Mate)) (x1 : (Int × Convoy)) : Option (Stp (Int × Convoy) Convoy) :=
  cond (decide (x1.1 < (p2.length : Int))) ((geti p2 x1.1).bind fun v1 => (cond (decide (x1.1 > 0)) ((geti p2 (w64 (x1.1 - 1))).bind fun v2 => (geti p2 (w64 (x1.1 - 1))).bind fun v3 => (geti p2 (w64 (x1.1 - 1))).bind fun v4 => some (Mate.mk (w64 (x1.1 + 1)) v1.S v1.V v1.Len x1.1 (Guess.mk (w64 (v2.S - v3.Len)) v4.V) true 0 (Guess.mk 0 0) 0)) (some (Mate.mk (w64 (x1.1 + 1)) v1.S v1.V v1.Len 0 (Guess.mk 0 0) true 0 (Guess.mk 0 0) 0))).bind fun y2 => (appc x1.2.Mates [y2]).bind fun v5 => some (.go ((w64 (x1.1 + 1)), (Convoy.mk x1.2.Tick x1.2.Gap v5 x1.2.Guest_)))) (some (.out x1.2))
theorem convoy_New_l1_le (p2 : (List Mate)) (x1 : (Int × Convoy)) : Le (convoy_New_l1c p2 x1) (convoy_New_l1 p2 x1) := by
  unfold convoy_New_l1c convoy_New_l1
  repeat' first | exact Le.refl _ | refine Le.bind ?_ fun _ => ?_ | refine Le.cond ?_ ?_ | refine Le.ite ?_ ?_ | refine Le.thenS ?_ (fun _ => ?_) (fun _ => ?_) | refine Le.loop (fun _ => ?_) _ | refine Le.loopL (fun _ _ => ?_) _ _
def convoy_Newc (p1 : Int) (p2 : (List Mate)) : Option (Convoy × Int) :=
  (loopF (convoy_New_l1c p2) (0, (Convoy.mk 0 p1 [] (Guest.mk 0 0 0 0 0 0 (Guess.mk 0 0) 0 0)))).bind fun y1 => (convoy_Checkc y1).bind fun v6 => cond (v6 != 0) (some ((Convoy.mk 0 0 [] (Guest.mk 0 0 0 0 0 0 (Guess.mk 0 0) 0 0)), v6)) (some (y1, 0))
theorem convoy_New_le (p1 : Int) (p2 : (List Mate)) : Le (convoy_Newc p1 p2) (convoy_New p1 p2) := by
  unfold convoy_Newc convoy_New
  repeat' first | exact Le.refl _ | exact convoy_New_l1_le _ _ | exact convoy_Check_le _ | refine Le.bind ?_ fun _ => ?_ | refine Le.cond ?_ ?_ | refine Le.ite ?_ ?_ | refine Le.thenS ?_ (fun _ => ?_) (fun _ => ?_) | refine Le.loop (fun _ => ?_) _ | refine Le.loopL (fun _ _ => ?_) _ _
def law09_shownc : Option Convoy :=
  (convoy_Newc 1000 [(Mate.mk 0 50000 1000 4000 0 (Guess.mk 0 0) false 0 (Guess.mk 0 0) 0), (Mate.mk 0 40000 1000 4000 0 (Guess.mk 0 0) false 0 (Guess.mk 0 0) 0)]).bind fun v1 => cond ((v1.2 != 0) || ((v1.1.Mates.length : Int) != 2)) (some (Convoy.mk 0 0 [] (Guest.mk 0 0 0 0 0 0 (Guess.mk 0 0) 0 0))) (some v1.1)
theorem law09_shown_le : Le (law09_shownc) (law09_shown) := by
  unfold law09_shownc law09_shown
  repeat' first | exact Le.refl _ | exact convoy_New_le _ _ | refine Le.bind ?_ fun _ => ?_ | refine Le.cond ?_ ?_ | refine Le.ite ?_ ?_ | refine Le.thenS ?_ (fun _ => ?_) (fun _ => ?_) | refine Le.loop (fun _ => ?_) _ | refine Le.loopL (fun _ _ => ?_) _ _
def convoy_Age_l1c (p2 : Int) (x1 : (Int × Guess)) : Option (Stp (Int × Guess) Guess) :=
  cond (decide (x1.1 < (mm2 true 0 (mm2 false p2 30)))) (some (.go ((w64 (x1.1 + 1)), (Guess.mk (w64 (x1.2.R + (mm2 true 0 (w64 (x1.2.V - 90))))) (mm2 true 0 (w64 (x1.2.V - 90))))))) (some (.out x1.2))
theorem convoy_Age_l1_le (p2 : Int) (x1 : (Int × Guess)) : Le (convoy_Age_l1c p2 x1) (convoy_Age_l1 p2 x1) := by
  unfold convoy_Age_l1c convoy_Age_l1
  repeat' first | exact Le.refl _ | refine Le.bind ?_ fun _ => ?_ | refine Le.cond ?_ ?_ | refine Le.ite ?_ ?_ | refine Le.thenS ?_ (fun _ => ?_) (fun _ => ?_) | refine Le.loop (fun _ => ?_) _ | refine Le.loopL (fun _ _ => ?_) _ _
def convoy_Agec (p1 : Guess) (p2 : Int) : Option Guess :=
  (convoy_sanec [p1.R, p1.V]).bind fun v1 => cond (!v1) (some (Guess.mk 0 0)) ((loopF (convoy_Age_l1c p2) (0, p1)).bind fun y1 => some y1)
theorem convoy_Age_le (p1 : Guess) (p2 : Int) : Le (convoy_Agec p1 p2) (convoy_Age p1 p2) := by
  unfold convoy_Agec convoy_Age
  repeat' first | exact Le.refl _ | exact convoy_sane_le _ | exact convoy_Age_l1_le _ _ | refine Le.bind ?_ fun _ => ?_ | refine Le.cond ?_ ?_ | refine Le.ite ?_ ?_ | refine Le.thenS ?_ (fun _ => ?_) (fun _ => ?_) | refine Le.loop (fun _ => ?_) _ | refine Le.loopL (fun _ _ => ?_) _ _
def convoy_find_1_bc (p1 : Mate) (p2 : Int) : Option Bool :=
  some (p1.ID == p2)
theorem convoy_find_1_b_le (p1 : Mate) (p2 : Int) : Le (convoy_find_1_bc p1 p2) (convoy_find_1_b p1 p2) := by
  unfold convoy_find_1_bc convoy_find_1_b
  repeat' first | exact Le.refl _ | refine Le.bind ?_ fun _ => ?_ | refine Le.cond ?_ ?_ | refine Le.ite ?_ ?_ | refine Le.thenS ?_ (fun _ => ?_) (fun _ => ?_) | refine Le.loop (fun _ => ?_) _ | refine Le.loopL (fun _ _ => ?_) _ _
def slices_IndexFunc_Mate_Mate_convoy_find_1b_l1c (p1 : (List Mate)) (p2 : Int) (x1 : Int) : Option (Stp Int (Sum Unit Int)) :=
  cond (decide (x1 < (p1.length : Int))) ((geti p1 x1).bind fun v1 => (convoy_find_1_bc v1 p2).bind fun v2 => cond v2 (some (.out (.inr x1))) (some (.go (w64 (x1 + 1))))) (some (.out (.inl ())))
theorem slices_IndexFunc_Mate_Mate_convoy_find_1b_l1_le (p1 : (List Mate)) (p2 : Int) (x1 : Int) : Le (slices_IndexFunc_Mate_Mate_convoy_find_1b_l1c p1 p2 x1) (slices_IndexFunc_Mate_Mate_convoy_find_1b_l1 p1 p2 x1) := by
  unfold slices_IndexFunc_Mate_Mate_convoy_find_1b_l1c slices_IndexFunc_Mate_Mate_convoy_find_1b_l1
  repeat' first | exact Le.refl _ | exact convoy_find_1_b_le _ _ | refine Le.bind ?_ fun _ => ?_ | refine Le.cond ?_ ?_ | refine Le.ite ?_ ?_ | refine Le.thenS ?_ (fun _ => ?_) (fun _ => ?_) | refine Le.loop (fun _ => ?_) _ | refine Le.loopL (fun _ _ => ?_) _ _
def slices_IndexFunc_Mate_Mate_convoy_find_1bc (p1 : (List Mate)) (p2 : Int) : Option Int :=
  thenS (loopF (slices_IndexFunc_Mate_Mate_convoy_find_1b_l1c p1 p2) 0) (fun _ => some (-1)) (fun r => some r)
theorem slices_IndexFunc_Mate_Mate_convoy_find_1b_le (p1 : (List Mate)) (p2 : Int) : Le (slices_IndexFunc_Mate_Mate_convoy_find_1bc p1 p2) (slices_IndexFunc_Mate_Mate_convoy_find_1b p1 p2) := by
  unfold slices_IndexFunc_Mate_Mate_convoy_find_1bc slices_IndexFunc_Mate_Mate_convoy_find_1b
  repeat' first | exact Le.refl _ | exact slices_IndexFunc_Mate_Mate_convoy_find_1b_l1_le _ _ _ | refine Le.bind ?_ fun _ => ?_ | refine Le.cond ?_ ?_ | refine Le.ite ?_ ?_ | refine Le.thenS ?_ (fun _ => ?_) (fun _ => ?_) | refine Le.loop (fun _ => ?_) _ | refine Le.loopL (fun _ _ => ?_) _ _
def convoy_findc (p1 : (List Mate)) (p2 : Int) : Option Int :=
  (slices_IndexFunc_Mate_Mate_convoy_find_1bc p1 p2).bind fun v1 => some v1
theorem convoy_find_le (p1 : (List Mate)) (p2 : Int) : Le (convoy_findc p1 p2) (convoy_find p1 p2) := by
  unfold convoy_findc convoy_find
  repeat' first | exact Le.refl _ | exact slices_IndexFunc_Mate_Mate_convoy_find_1b_le _ _ | refine Le.bind ?_ fun _ => ?_ | refine Le.cond ?_ ?_ | refine Le.ite ?_ ?_ | refine Le.thenS ?_ (fun _ => ?_) (fun _ => ?_) | refine Le.loop (fun _ => ?_) _ | refine Le.loopL (fun _ _ => ?_) _ _
def convoy_Belowc (p1 : Guess) (p2 : Int) (p3 : Int) : Option Bool :=
  (convoy_sanec [p1.R, p1.V, p2, p3]).bind fun v1 => ((cond (v1 && (decide (p1.R ≤ p2))) (convoy_endc p1) (some default))).bind fun v2 => ((cond (v1 && (decide (p1.R ≤ p2))) (convoy_stopc p3) (some default))).bind fun v3 => some ((v1 && (decide (p1.R ≤ p2))) && (decide (v2 ≤ (w64 (p2 + v3)))))
theorem convoy_Below_le (p1 : Guess) (p2 : Int) (p3 : Int) : Le (convoy_Belowc p1 p2 p3) (convoy_Below p1 p2 p3) := by
  unfold convoy_Belowc convoy_Below
  repeat' first | exact Le.refl _ | exact convoy_sane_le _ | exact convoy_end_le _ | exact convoy_stop_le _ | refine Le.bind ?_ fun _ => ?_ | refine Le.cond ?_ ?_ | refine Le.ite ?_ ?_ | refine Le.thenS ?_ (fun _ => ?_) (fun _ => ?_) | refine Le.loop (fun _ => ?_) _ | refine Le.loopL (fun _ _ => ?_) _ _
def convoy_holdsc (p1 : (List Mate)) (p2 : Int) (p3 : Guess) : Option Bool :=
  (convoy_findc p1 p2).bind fun v1 => ((cond (decide (v1 ≥ 0)) (geti p1 v1) (some default))).bind fun v2 => ((cond (decide (v1 ≥ 0)) (convoy_rearc v2) (some default))).bind fun v3 => ((cond (decide (v1 ≥ 0)) (geti p1 v1) (some default))).bind fun v4 => ((cond (decide (v1 ≥ 0)) (convoy_Belowc p3 v3 v4.V) (some default))).bind fun v5 => some ((decide (v1 ≥ 0)) && v5)
theorem convoy_holds_le (p1 : (List Mate)) (p2 : Int) (p3 : Guess) : Le (convoy_holdsc p1 p2 p3) (convoy_holds p1 p2 p3) := by
  unfold convoy_holdsc convoy_holds
  repeat' first | exact Le.refl _ | exact convoy_find_le _ _ | exact convoy_rear_le _ | exact convoy_Below_le _ _ _ | refine Le.bind ?_ fun _ => ?_ | refine Le.cond ?_ ?_ | refine Le.ite ?_ ?_ | refine Le.thenS ?_ (fun _ => ?_) (fun _ => ?_) | refine Le.loop (fun _ => ?_) _ | refine Le.loopL (fun _ _ => ?_) _ _
def convoy_Sound_l1c (p1 : Convoy) (x1 : Int) : Option (Stp Int (Sum Unit Bool)) :=
  cond (decide (x1 < (p1.Mates.length : Int))) ((geti p1.Mates x1).bind fun v2 => ((cond (v2.Ahead != 0) (subl p1.Mates 0 x1) (some default))).bind fun v3 => ((cond (v2.Ahead != 0) (convoy_holdsc v3 v2.Ahead v2.Guess_) (some default))).bind fun v4 => cond ((v2.Ahead != 0) && (!v4)) (some (.out (.inr false))) (((cond (v2.Until != 0) (subl p1.Mates 0 x1) (some default))).bind fun v5 => ((cond (v2.Until != 0) (convoy_findc v5 v2.Ward) (some default))).bind fun v6 => ((cond ((v2.Until != 0) && (decide (v6 ≥ 0))) (subl p1.Mates 0 x1) (some default))).bind fun v7 => ((cond ((v2.Until != 0) && (decide (v6 ≥ 0))) (convoy_holdsc v7 v2.Ward v2.WardGuess) (some default))).bind fun v8 => cond (((v2.Until != 0) && (decide (v6 ≥ 0))) && (!v8)) (some (.out (.inr false))) (((cond ((v2.Until != 0) && (v2.Ward == p1.Guest_.ID)) (convoy_Belowc v2.WardGuess (w64 (p1.Guest_.S - p1.Guest_.Len)) p1.Guest_.V) (some default))).bind fun v9 => cond (((v2.Until != 0) && (v2.Ward == p1.Guest_.ID)) && (!v9)) (some (.out (.inr false))) (((cond (decide (x1 > 0)) (geti p1.Mates (w64 (x1 - 1))) (some default))).bind fun v10 => ((cond (((decide (x1 > 0)) && (v10.ID != v2.Ahead)) && (!(v2.Until == 0))) (geti p1.Mates (w64 (x1 - 1))) (some default))).bind fun v11 => cond (((decide (x1 > 0)) && (v10.ID != v2.Ahead)) && ((v2.Until == 0) || (v11.ID != v2.Ward))) (some (.out (.inr false))) (some (.go (w64 (x1 + 1)))))))) (some (.out (.inl ())))
theorem convoy_Sound_l1_le (p1 : Convoy) (x1 : Int) : Le (convoy_Sound_l1c p1 x1) (convoy_Sound_l1 p1 x1) := by
  unfold convoy_Sound_l1c convoy_Sound_l1
  repeat' first | exact Le.refl _ | exact convoy_holds_le _ _ _ | exact convoy_find_le _ _ | exact convoy_Below_le _ _ _ | refine Le.bind ?_ fun _ => ?_ | refine Le.cond ?_ ?_ | refine Le.ite ?_ ?_ | refine Le.thenS ?_ (fun _ => ?_) (fun _ => ?_) | refine Le.loop (fun _ => ?_) _ | refine Le.loopL (fun _ _ => ?_) _ _
def convoy_Soundc (p1 : Convoy) : Option Bool :=
  (convoy_Checkc p1).bind fun v1 => cond (v1 != 0) (some false) (thenS (loopF (convoy_Sound_l1c p1) 0) (fun _ => ((cond (!(p1.Guest_.Ahead == 0)) (convoy_holdsc p1.Mates p1.Guest_.Ahead p1.Guest_.Guess_) (some default))).bind fun v12 => some ((p1.Guest_.Ahead == 0) || v12)) (fun r => some r))
theorem convoy_Sound_le (p1 : Convoy) : Le (convoy_Soundc p1) (convoy_Sound p1) := by
  unfold convoy_Soundc convoy_Sound
  repeat' first | exact Le.refl _ | exact convoy_Check_le _ | exact convoy_Sound_l1_le _ _ | exact convoy_holds_le _ _ _ | refine Le.bind ?_ fun _ => ?_ | refine Le.cond ?_ ?_ | refine Le.ite ?_ ?_ | refine Le.thenS ?_ (fun _ => ?_) (fun _ => ?_) | refine Le.loop (fun _ => ?_) _ | refine Le.loopL (fun _ _ => ?_) _ _
def convoy_Gaps_l1c (p1 : Convoy) (x1 : ((List Int) × Int)) : Option (Stp ((List Int) × Int) (List Int)) :=
  cond (decide (x1.2 < (p1.Mates.length : Int))) ((geti p1.Mates (w64 (x1.2 - 1))).bind fun v2 => (convoy_rearc v2).bind fun v3 => (geti p1.Mates x1.2).bind fun v4 => (appc x1.1 [(w64 (v3 - v4.S))]).bind fun v5 => some (.go (v5, (w64 (x1.2 + 1))))) (some (.out x1.1))
theorem convoy_Gaps_l1_le (p1 : Convoy) (x1 : ((List Int) × Int)) : Le (convoy_Gaps_l1c p1 x1) (convoy_Gaps_l1 p1 x1) := by
  unfold convoy_Gaps_l1c convoy_Gaps_l1
  repeat' first | exact Le.refl _ | exact convoy_rear_le _ | refine Le.bind ?_ fun _ => ?_ | refine Le.cond ?_ ?_ | refine Le.ite ?_ ?_ | refine Le.thenS ?_ (fun _ => ?_) (fun _ => ?_) | refine Le.loop (fun _ => ?_) _ | refine Le.loopL (fun _ _ => ?_) _ _
def convoy_Gapsc (p1 : Convoy) : Option (List Int) :=
  (convoy_Checkc p1).bind fun v1 => cond (v1 != 0) (some []) ((loopF (convoy_Gaps_l1c p1) ([], 1)).bind fun y1 => some y1)
theorem convoy_Gaps_le (p1 : Convoy) : Le (convoy_Gapsc p1) (convoy_Gaps p1) := by
  unfold convoy_Gapsc convoy_Gaps
  repeat' first | exact Le.refl _ | exact convoy_Check_le _ | exact convoy_Gaps_l1_le _ _ | refine Le.bind ?_ fun _ => ?_ | refine Le.cond ?_ ?_ | refine Le.ite ?_ ?_ | refine Le.thenS ?_ (fun _ => ?_) (fun _ => ?_) | refine Le.loop (fun _ => ?_) _ | refine Le.loopL (fun _ _ => ?_) _ _
def kit_SameLongs_l1c (p1 : (List Int)) (p2 : (List Int)) (x1 : Int) : Option (Stp Int (Sum Unit Bool)) :=
  cond ((decide (x1 < (p1.length : Int))) && (decide (x1 < (p2.length : Int)))) ((geti p1 x1).bind fun v1 => (geti p2 x1).bind fun v2 => cond (v1 != v2) (some (.out (.inr false))) (some (.go (w64 (x1 + 1))))) (some (.out (.inl ())))
theorem kit_SameLongs_l1_le (p1 : (List Int)) (p2 : (List Int)) (x1 : Int) : Le (kit_SameLongs_l1c p1 p2 x1) (kit_SameLongs_l1 p1 p2 x1) := by
  unfold kit_SameLongs_l1c kit_SameLongs_l1
  repeat' first | exact Le.refl _ | refine Le.bind ?_ fun _ => ?_ | refine Le.cond ?_ ?_ | refine Le.ite ?_ ?_ | refine Le.thenS ?_ (fun _ => ?_) (fun _ => ?_) | refine Le.loop (fun _ => ?_) _ | refine Le.loopL (fun _ _ => ?_) _ _
def kit_SameLongsc (p1 : (List Int)) (p2 : (List Int)) : Option Bool :=
  thenS (loopF (kit_SameLongs_l1c p1 p2) 0) (fun _ => some ((p1.length : Int) == (p2.length : Int))) (fun r => some r)
theorem kit_SameLongs_le (p1 : (List Int)) (p2 : (List Int)) : Le (kit_SameLongsc p1 p2) (kit_SameLongs p1 p2) := by
  unfold kit_SameLongsc kit_SameLongs
  repeat' first | exact Le.refl _ | exact kit_SameLongs_l1_le _ _ _ | refine Le.bind ?_ fun _ => ?_ | refine Le.cond ?_ ?_ | refine Le.ite ?_ ?_ | refine Le.thenS ?_ (fun _ => ?_) (fun _ => ?_) | refine Le.loop (fun _ => ?_) _ | refine Le.loopL (fun _ _ => ?_) _ _
def law09_awakec : Option Bool :=
  (law09_shownc).bind fun v1 => ((cond ((v1.Mates.length : Int) == 2) (convoy_Agec (Guess.mk 0 200) 2) (some default))).bind fun v2 => ((cond (((v1.Mates.length : Int) == 2) && (v2.R == 130 && (v2.V == 20 && true))) (convoy_Soundc v1) (some default))).bind fun v3 => ((cond ((((v1.Mates.length : Int) == 2) && (v2.R == 130 && (v2.V == 20 && true))) && v3) (convoy_Gapsc v1) (some default))).bind fun v4 => ((cond ((((v1.Mates.length : Int) == 2) && (v2.R == 130 && (v2.V == 20 && true))) && v3) (kit_SameLongsc v4 [6000]) (some default))).bind fun v5 => ((cond (((((v1.Mates.length : Int) == 2) && (v2.R == 130 && (v2.V == 20 && true))) && v3) && v5) (convoy_Safec 0 191 1000 (Guess.mk 1000 100)) (some default))).bind fun v6 => some ((((((v1.Mates.length : Int) == 2) && (v2.R == 130 && (v2.V == 20 && true))) && v3) && v5) && (!v6))
theorem law09_awake_le : Le (law09_awakec) (law09_awake) := by
  unfold law09_awakec law09_awake
  repeat' first | exact Le.refl _ | exact law09_shown_le | exact convoy_Age_le _ _ | exact convoy_Sound_le _ | exact convoy_Gaps_le _ | exact kit_SameLongs_le _ _ | exact convoy_Safe_le _ _ _ _ | refine Le.bind ?_ fun _ => ?_ | refine Le.cond ?_ ?_ | refine Le.ite ?_ ?_ | refine Le.thenS ?_ (fun _ => ?_) (fun _ => ?_) | refine Le.loop (fun _ => ?_) _ | refine Le.loopL (fun _ _ => ?_) _ _
end Go.Abs.Convoy

namespace Go.Abs.Convoy
open Go Go.Abs
theorem awake_eq : law09_awake = some true := law09_awake_le _ (by decide +kernel)
end Go.Abs.Convoy

namespace Go.Abs.Convoy
open Go Go.Abs

theorem cond_some {α : Type} (c : Bool) (a b : α) : cond c (some a) (some b) = some (cond c a b) := by cases c <;> rfl
/-- The place of the first element with a property. -/
theorem index_loop {α : Type} {f : Int → Option (Stp Int (Sum Unit Int))} (l : List α) (P : α → Bool) (hl : l.length ≤ 1000000000) (hf : ∀ (i : Nat) a, l[i]? = some a → f (i : Int) = some (if P a then .out (.inr (i : Int)) else .go (w64 ((i : Int) + 1)))) (he : f (l.length : Int) = some (.out (.inl ()))) :
    loop f 0 = some (match l.findIdx? P with | some i => .inr (i : Int) | none => .inl ()) := by
  have key : ∀ (r : List α) (i : Nat), l.drop i = r → i ≤ l.length → loop f (i : Int) = some (match r.findIdx? P with | some j => .inr ((i + j : Nat) : Int) | none => .inl ()) := by
    intro r
    induction r with
    | nil =>
      intro i hi hil
      have := drop_nil hi
      obtain rfl : i = l.length := by omega
      rw [loop_out he]; rfl
    | cons a r ih =>
      intro i hi _
      have hlt := drop_lt hi
      have h0 : l[i]? = some a := by have := congrArg (fun z => z[0]?) hi; simpa using this
      have hs := hf i a h0
      rw [List.findIdx?_cons]
      by_cases hp : P a = true
      · rw [if_pos hp] at hs
        rw [loop_out hs, if_pos hp]; simp
      · rw [if_neg hp] at hs
        rw [w64_id (by omega)] at hs
        rw [loop_go hs, show ((i : Int) + 1) = ((i + 1 : Nat) : Int) by omega, ih (i + 1) (drop_succ hi) (by omega), if_neg hp]
        cases r.findIdx? P with
        | none => rfl
        | some j => simp only [Option.map_some]; congr 3; omega
  have := key l 0 rfl (by omega)
  rw [show ((0 : Nat) : Int) = 0 from rfl] at this
  rw [this]
  cases l.findIdx? P <;> simp
/-- -1, or the place. -/
def idxI {α : Type} (P : α → Bool) (l : List α) : Int := match l.findIdx? P with | some i => (i : Int) | none => -1
theorem idxI_any {α : Type} (P : α → Bool) (l : List α) : decide (idxI P l ≥ 0) = l.any P := by
  unfold idxI
  cases h : l.findIdx? P with
  | none =>
    have := List.findIdx?_eq_none_iff.1 h
    rw [show l.any P = false by rw [List.any_eq_false]; intro x hx; simpa using this x hx]
    decide
  | some i =>
    have := List.findIdx?_isSome (xs := l) (p := P)
    rw [h] at this
    rw [← this]
    simp
/-- What both twins compute of a list. -/
theorem index_eq {α : Type} {f : Int → Option (Stp Int (Sum Unit Int))} (l : List α) (P : α → Bool) (hl : l.length ≤ 1000000000) (hf : ∀ (i : Nat) a, l[i]? = some a → f (i : Int) = some (if P a then .out (.inr (i : Int)) else .go (w64 ((i : Int) + 1)))) (he : f (l.length : Int) = some (.out (.inl ()))) :
    thenS (loop f 0) (fun _ => some (-1)) (fun r => some r) = some (idxI P l) := by
  rw [index_loop l P hl hf he]
  unfold idxI
  cases l.findIdx? P <;> rfl
theorem geti_some {α : Type} {l : List α} {i : Nat} {a : α} (h : l[i]? = some a) : geti l (i : Int) = some a := by
  unfold geti
  rw [if_pos (by omega), Int.toNat_natCast, h]
theorem get_lt {α : Type} {l : List α} {i : Nat} {a : α} (h : l[i]? = some a) : i < l.length := (List.getElem?_eq_some_iff.1 h).1

/-! ### Numbers that can be computed with -/
def sane1 (n : Int) : Bool := decide (-4398046511104 ≤ n) && decide (n ≤ 4398046511104)
def saneM (l : List Int) : Bool := l.all sane1
theorem convoy_sane_eq (l : List Int) (hl : l.length ≤ 1000000000) : convoy_sane l = some (saneM l) := by
  unfold convoy_sane slices_ContainsFunc_int64_int64_convoy_sane_1 slices_IndexFunc_int64_int64_convoy_sane_1
  rw [index_eq l (fun n => !sane1 n) hl (fun i a h => by
    have := get_lt h
    unfold slices_IndexFunc_int64_int64_convoy_sane_1_l1 convoy_sane_1 convoy_within
    rw [show decide ((i : Int) < (l.length : Int)) = true from decide_eq_true (by omega), geti_some h]
    simp only [cond_true, Option.bind_some]
    unfold sane1
    cases (decide (-4398046511104 ≤ a) && decide (a ≤ 4398046511104)) <;> rfl) (by
    unfold slices_IndexFunc_int64_int64_convoy_sane_1_l1
    simp)]
  simp only [Option.bind_some, idxI_any, Option.some.injEq, saneM]
  rw [Bool.eq_iff_iff]
  simp [List.all_eq_true, List.any_eq_false]
theorem ref09_sane_eq (l : List Int) (hl : l.length ≤ 1000000000) : ref09_sane l = some (saneM l) := by
  have key : ∀ (r : List Int) (i : Nat), l.drop i = r → loop (ref09_sane_l1 l) (i : Int) = some (if r.all sane1 then .inl () else .inr false) := by
    intro r
    induction r with
    | nil =>
      intro i hi
      have := drop_nil hi
      refine loop_out ?_
      unfold ref09_sane_l1
      rw [show decide ((i : Int) < (l.length : Int)) = false from decide_eq_false (by omega)]
      rfl
    | cons a r ih =>
      intro i hi
      have hlt := drop_lt hi
      have hs : ref09_sane_l1 l (i : Int) = some (if sane1 a then .go ((i : Int) + 1) else .out (.inr false)) := by
        unfold ref09_sane_l1
        rw [show decide ((i : Int) < (l.length : Int)) = true from decide_eq_true (by omega), geti_drop hi, w64_id (by omega)]
        simp only [cond_true, Option.bind_some, cond_some]
        unfold sane1
        by_cases h1 : a < -4398046511104
        · rw [show decide (a < -4398046511104) = true from decide_eq_true h1, show decide (-4398046511104 ≤ a) = false from decide_eq_false (by omega)]; rfl
        · rw [show decide (a < -4398046511104) = false from decide_eq_false h1, show decide (-4398046511104 ≤ a) = true from decide_eq_true (by omega)]
          simp only [Bool.not_false, cond_true, Bool.false_or, Bool.true_and]
          by_cases h2 : a > 4398046511104
          · rw [show decide (a > 4398046511104) = true from decide_eq_true h2, show decide (a ≤ 4398046511104) = false from decide_eq_false (by omega)]; rfl
          · rw [show decide (a > 4398046511104) = false from decide_eq_false h2, show decide (a ≤ 4398046511104) = true from decide_eq_true (by omega)]; rfl
      by_cases hp : sane1 a = true
      · rw [if_pos hp] at hs
        rw [loop_go hs, show ((i : Int) + 1) = ((i + 1 : Nat) : Int) by omega, ih (i + 1) (drop_succ hi), List.all_cons, hp, Bool.true_and]
      · rw [if_neg hp] at hs
        rw [loop_out hs, List.all_cons, show sane1 a = false by simpa using hp]; rfl
  unfold ref09_sane
  have := key l 0 rfl
  rw [show ((0 : Nat) : Int) = 0 from rfl] at this
  rw [this]
  unfold saneM
  cases l.all sane1 <;> rfl
theorem sane1_iff {n : Int} : sane1 n = true ↔ -4398046511104 ≤ n ∧ n ≤ 4398046511104 := by simp [sane1]

/-! ### The way to stop -/
def stopM (v : Int) : Int := if v < 1 then 0 else (min v 1000000 - 1) / 90 * min v 1000000 - 90 * ((min v 1000000 - 1) / 90 * ((min v 1000000 - 1) / 90 + 1) / 2)
theorem tri_even (n : Int) : ∃ k, n * (n + 1) = 2 * k := by
  have : n % 2 = 0 ∨ n % 2 = 1 := by omega
  rcases this with h | h
  · obtain ⟨m, rfl⟩ : ∃ m, n = 2 * m := ⟨n / 2, by omega⟩
    exact ⟨m * (2 * m + 1), Int.mul_assoc _ _ _⟩
  · obtain ⟨m, rfl⟩ : ∃ m, n = 2 * m + 1 := ⟨n / 2, by omega⟩
    exact ⟨(2 * m + 1) * (m + 1), by rw [show 2 * m + 1 + 1 = 2 * (m + 1) by omega, Int.mul_left_comm]⟩
theorem nn_bd {n : Int} (h0 : 0 ≤ n) (h1 : n ≤ 11112) : 0 ≤ n * (n + 1) ∧ n * (n + 1) ≤ 200000000 := by
  refine ⟨Int.mul_nonneg h0 (by omega), ?_⟩
  have := Int.mul_le_mul h1 (show n + 1 ≤ 11113 by omega) (by omega) (by decide)
  omega
theorem convoy_stop_eq (v : Int) : convoy_stop v = some (stopM v) := by
  unfold convoy_stop world_Stop stopM
  by_cases h : v < 1
  · simp [h]
  · rw [show decide (v < 1) = false from decide_eq_false h, if_neg h]
    simp only [Bool.false_or, show decide ((90 : Int) < 1) = false from rfl, cond_false, mm2_min]
    generalize hw : min v 1000000 = w
    have w1 : 1 ≤ w ∧ w ≤ 1000000 := by omega
    rw [w64_id (n := w - 1) (by omega), show min (90 : Int) 1000000 = 90 from rfl]
    unfold quoc
    rw [if_neg (by decide), Int.tdiv_eq_ediv_of_nonneg (by omega)]
    generalize hn : (w - 1) / 90 = n
    have n1 : 0 ≤ n ∧ n ≤ 11112 := by omega
    have t := nn_bd n1.1 n1.2
    have m1 : 0 ≤ n * w ∧ n * w ≤ 11112000000 := by
      refine ⟨Int.mul_nonneg n1.1 (by omega), ?_⟩
      have := Int.mul_le_mul n1.2 w1.2 (by omega) (by decide)
      omega
    simp only [Option.bind_some]
    rw [show IntKind.i64.wrap n = n from w64_id (by omega), w64_id (n := n * w) (by omega), w64_id (n := n + 1) (by omega), w64_id (n := n * (n + 1)) (by omega), Int.tdiv_eq_ediv_of_nonneg t.1, w64_id (n := n * (n + 1) / 2) (by omega), w64_id (n := 90 * (n * (n + 1) / 2)) (by omega), w64_id (by omega)]
theorem stopM_small {v : Int} (h : v ≤ 90) : stopM v = 0 := by
  unfold stopM
  split
  · rfl
  · rw [show (min v 1000000 - 1) / 90 = 0 by omega]; simp
theorem stopM_step {v : Int} (h : 90 < v) (h1 : v ≤ 1000000) : stopM v = v - 90 + stopM (v - 90) := by
  unfold stopM
  rw [if_neg (by omega)]
  by_cases h2 : v - 90 < 1
  · omega
  · rw [if_neg h2, show min v 1000000 = v by omega, show min (v - 90) 1000000 = v - 90 by omega, show (v - 90 - 1) / 90 = (v - 1) / 90 - 1 by omega]
    generalize (v - 1) / 90 = n
    obtain ⟨k, hk⟩ := tri_even n
    have e2 : (n - 1) * (n - 1 + 1) = 2 * (k - n) := by
      have : (n - 1) * (n - 1 + 1) = n * (n + 1) - 2 * n := by grind
      rw [this, hk]; omega
    rw [hk, e2, Int.mul_ediv_cancel_left k (by decide), Int.mul_ediv_cancel_left (k - n) (by decide)]
    have : (n - 1) * (v - 90) = n * v - 90 * n - v + 90 := by grind
    rw [this]
    omega
theorem stopM_nonneg (v : Int) : 0 ≤ stopM v ∧ stopM v ≤ 11112000000 := by
  unfold stopM
  split
  · omega
  · generalize hw : min v 1000000 = w
    have w1 : 1 ≤ w ∧ w ≤ 1000000 := by omega
    generalize hn : (w - 1) / 90 = n
    have n1 : 0 ≤ n ∧ n ≤ 11112 := by omega
    have t := nn_bd n1.1 n1.2
    have m1 : n * w ≤ 11112000000 := by
      have := Int.mul_le_mul n1.2 w1.2 (by omega) (by decide)
      omega
    have m2 : n * (90 * n + 1) ≤ n * w := Int.mul_le_mul_of_nonneg_left (by omega) n1.1
    have m3 : n * (90 * n + 1) = 90 * (n * n) + n := by grind
    have m5 : n * (n + 1) = n * n + n := by grind
    have m4 : n ≤ n * n := by
      rcases (show n = 0 ∨ 1 ≤ n by omega) with h | h
      · rw [h]; decide
      · have := Int.mul_le_mul_of_nonneg_left h n1.1
        omega
    omega
end Go.Abs.Convoy

namespace Go.Abs.Convoy
open Go Go.Abs

theorem saneM2 {a b : Int} (h : saneM [a, b] = true) : (-4398046511104 ≤ a ∧ a ≤ 4398046511104) ∧ -4398046511104 ≤ b ∧ b ≤ 4398046511104 := by
  simpa [saneM, sane1_iff] using h
theorem saneM4 {a b c d : Int} (h : saneM [a, b, c, d] = true) : (-4398046511104 ≤ a ∧ a ≤ 4398046511104) ∧ (-4398046511104 ≤ b ∧ b ≤ 4398046511104) ∧ (-4398046511104 ≤ c ∧ c ≤ 4398046511104) ∧ -4398046511104 ≤ d ∧ d ≤ 4398046511104 := by
  simpa [saneM, sane1_iff] using h
theorem saneM5 {a b c d e : Int} (h : saneM [a, b, c, d, e] = true) : (-4398046511104 ≤ a ∧ a ≤ 4398046511104) ∧ (-4398046511104 ≤ b ∧ b ≤ 4398046511104) ∧ (-4398046511104 ≤ c ∧ c ≤ 4398046511104) ∧ (-4398046511104 ≤ d ∧ d ≤ 4398046511104) ∧ -4398046511104 ≤ e ∧ e ≤ 4398046511104 := by
  simpa [saneM, sane1_iff] using h
/-- Where the one of a guess comes to a standstill at least. -/
def endM (g : Guess) : Int := g.R + stopM g.V
theorem convoy_end_eq {g : Guess} (h : -4398046511104 ≤ g.R ∧ g.R ≤ 4398046511104) : convoy_end g = some (endM g) := by
  unfold convoy_end
  have := stopM_nonneg g.V
  rw [convoy_stop_eq, Option.bind_some, w64_id (by omega)]; rfl
def belowM (g : Guess) (r v : Int) : Bool := saneM [g.R, g.V, r, v] && decide (g.R ≤ r) && decide (endM g ≤ r + stopM v)
theorem convoy_Below_eq (g : Guess) (r v : Int) : convoy_Below g r v = some (belowM g r v) := by
  unfold convoy_Below belowM
  rw [convoy_sane_eq _ (by simp), Option.bind_some]
  cases hs : saneM [g.R, g.V, r, v]
  · simp
  · have b := saneM4 hs
    have := stopM_nonneg v
    rw [convoy_end_eq b.1, convoy_stop_eq]
    by_cases hr : g.R ≤ r
    · rw [show decide (g.R ≤ r) = true from decide_eq_true hr]
      simp only [Bool.and_self, cond_true, Option.bind_some]
      rw [w64_id (by omega)]
    · rw [show decide (g.R ≤ r) = false from decide_eq_false hr]
      simp
def betterM (g h : Guess) : Guess := if saneM [g.R, g.V, h.R, h.V] then (if g.R ≤ h.R ∧ endM g ≤ endM h then h else g) else ⟨0, 0⟩
theorem convoy_Better_eq (g h : Guess) : convoy_Better g h = some (betterM g h) := by
  unfold convoy_Better betterM
  rw [convoy_sane_eq _ (by simp), Option.bind_some]
  cases hs : saneM [g.R, g.V, h.R, h.V]
  · simp
  · have b := saneM4 hs
    rw [convoy_end_eq b.1, convoy_end_eq b.2.2.1]
    by_cases hr : g.R ≤ h.R
    · rw [show decide (h.R ≥ g.R) = true from decide_eq_true hr]
      simp only [Bool.not_true, cond_false, cond_true, Option.bind_some, Bool.true_and, if_true, hr, true_and, ge_iff_le, cond_if]
      split <;> rfl
    · rw [show decide (h.R ≥ g.R) = false from decide_eq_false hr]
      simp [hr]
def safeM (s v gap : Int) (g : Guess) : Bool := saneM [s, v, gap, g.R, g.V] && decide (s ≤ g.R - gap) && decide (s + stopM v ≤ endM g - gap)
theorem convoy_Safe_eq (s v gap : Int) (g : Guess) : convoy_Safe s v gap g = some (safeM s v gap g) := by
  unfold convoy_Safe safeM
  rw [convoy_sane_eq _ (by simp), Option.bind_some]
  cases hs : saneM [s, v, gap, g.R, g.V]
  · simp
  · have b := saneM5 hs
    have := stopM_nonneg v
    have := stopM_nonneg g.V
    rw [w64_id (n := g.R - gap) (by omega), convoy_end_eq b.2.2.2.1, convoy_stop_eq]
    by_cases hr : s ≤ g.R - gap
    · rw [show decide (s ≤ g.R - gap) = true from decide_eq_true hr]
      simp only [Bool.and_self, cond_true, Option.bind_some]
      rw [w64_id (by omega), w64_id (by unfold endM; omega)]
    · rw [show decide (s ≤ g.R - gap) = false from decide_eq_false hr]
      simp
/-- Ticks in which the one of a guess brakes. -/
def ageN : Nat → Guess → Guess
  | 0, g => g
  | n + 1, g => ageN n ⟨g.R + max 0 (g.V - 90), max 0 (g.V - 90)⟩
def ageM (g : Guess) (n : Int) : Guess := if saneM [g.R, g.V] then ageN (max 0 (min n 30)).toNat g else ⟨0, 0⟩
theorem age_loop (n : Int) : ∀ (k : Nat) (i : Nat) (g : Guess), (i : Int) + k = max 0 (min n 30) → (-4398046511104 ≤ g.V ∧ g.V ≤ 4398046511104) → (-4398046511104 * (1 + i) ≤ g.R ∧ g.R ≤ 4398046511104 * (1 + i)) → loop (convoy_Age_l1 n) ((i : Int), g) = some (ageN k g) ∧ loop (ref09_Age_l1 n) ((i : Int), g) = some (ageN k g) := by
  intro k
  induction k with
  | zero =>
    intro i g h _ _
    constructor
    · refine loop_out ?_
      unfold convoy_Age_l1
      rw [mm2_max, mm2_min, show decide ((i : Int) < max 0 (min n 30)) = false from decide_eq_false (by omega)]; rfl
    · refine loop_out ?_
      unfold ref09_Age_l1
      by_cases h1 : (i : Int) < n
      · rw [show decide ((i : Int) < 30) = false from decide_eq_false (by omega), Bool.and_false]; rfl
      · rw [show decide ((i : Int) < n) = false from decide_eq_false h1, Bool.false_and]; rfl
  | succ k ih =>
    intro i g h hv hr
    have hb : w64 (g.V - 90) = g.V - 90 := w64_id (by omega)
    have hi : (i : Int) < 30 := by omega
    have hrr : w64 (g.R + max 0 (g.V - 90)) = g.R + max 0 (g.V - 90) := w64_id (by omega)
    have s1 : convoy_Age_l1 n ((i : Int), g) = some (.go (((i + 1 : Nat) : Int), ⟨g.R + max 0 (g.V - 90), max 0 (g.V - 90)⟩)) := by
      unfold convoy_Age_l1
      rw [mm2_max, mm2_min, show decide ((i : Int) < max 0 (min n 30)) = true from decide_eq_true (by omega)]
      dsimp only
      rw [hb, mm2_max, hrr, w64_id (by omega)]; rfl
    have s2 : ref09_Age_l1 n ((i : Int), g) = some (.go (((i + 1 : Nat) : Int), ⟨g.R + max 0 (g.V - 90), max 0 (g.V - 90)⟩)) := by
      unfold ref09_Age_l1
      rw [show decide ((i : Int) < n) = true from decide_eq_true (by omega), show decide ((i : Int) < 30) = true from decide_eq_true hi]
      dsimp only
      rw [hb, mm2_max, hrr, w64_id (by omega)]; rfl
    rw [loop_go s1, loop_go s2, ageN]
    exact ih (i + 1) _ (by omega) (by dsimp only; omega) (by dsimp only; omega)
theorem Age_eq (g : Guess) (n : Int) : convoy_Age g n = some (ageM g n) ∧ ref09_Age g n = some (ageM g n) := by
  unfold convoy_Age ref09_Age ageM
  rw [convoy_sane_eq _ (by simp), ref09_sane_eq _ (by simp), Option.bind_some, Option.bind_some]
  cases hs : saneM [g.R, g.V]
  · exact ⟨rfl, rfl⟩
  · have b := saneM2 hs
    obtain ⟨h1, h2⟩ := age_loop n (max 0 (min n 30)).toNat 0 g (by omega) b.2 (by omega)
    rw [show ((0 : Nat) : Int) = 0 from rfl] at h1 h2
    simp only [Bool.not_true, cond_false, h1, h2, Option.bind_some, if_true, and_self]
end Go.Abs.Convoy

namespace Go.Abs.Convoy
open Go Go.Abs

theorem kit_Mod_eq {n m : Int} (hm : 0 < m) (hm2 : m ≤ 9223372036854775807) : kit_Mod n m = some (n % m) ∧ kit_Mod64 n m = some (n % m) := by
  have h1 : kit_Mod64 n m = some (n % m) := by
    unfold kit_Mod64 remc
    rw [if_neg (by omega), Option.bind_some, Int.tmod_eq_emod]
    have := Int.emod_nonneg n (show m ≠ 0 by omega)
    have := Int.emod_lt_of_pos n hm
    split
    · rw [show decide (n % m - ((0 : Nat) : Int) < 0) = false from decide_eq_false (by omega)]
      simp
    · rename_i h
      have hne : n % m ≠ 0 := fun e => h (.inr (Int.dvd_of_emod_eq_zero e))
      rw [show ((m.natAbs : Nat) : Int) = m by omega, show decide (n % m - m < 0) = true from decide_eq_true (by omega), cond_true, w64_id (by omega)]
      congr 1; omega
  exact ⟨h1, h1⟩
theorem stopM_next {v : Int} (h0 : 0 ≤ v) (h1 : v ≤ 1000000) : stopM v = max 0 (v - 90) + stopM (max 0 (v - 90)) := by
  by_cases h : 90 < v
  · rw [show max 0 (v - 90) = v - 90 by omega, stopM_step h h1]
  · rw [show max 0 (v - 90) = 0 by omega, stopM_small (by omega), stopM_small (by omega)]; rfl
theorem stopM_mono : ∀ (k : Nat) {v w : Int}, w ≤ 90 + 90 * k → v ≤ w → w ≤ 1000000 → stopM v ≤ stopM w
  | 0, v, w, h, hv, _ => by rw [stopM_small (by omega), stopM_small (by omega)]; omega
  | k + 1, v, w, h, hv, hw => by
    by_cases h1 : 90 < v
    · rw [stopM_step h1 (by omega), stopM_step (show 90 < w by omega) hw]
      have := stopM_mono k (show w - 90 ≤ 90 + 90 * k by omega) (show v - 90 ≤ w - 90 by omega) (by omega)
      omega
    · rw [stopM_small (by omega)]; exact (stopM_nonneg w).1
theorem stop_mono {v w : Int} (hv : v ≤ w) (hw : w ≤ 1000000) : stopM v ≤ stopM w := stopM_mono 11111 (by omega) hv hw
/-- A guess with small numbers. -/
def Small (B : Int) (g : Guess) : Prop := (-B ≤ g.R ∧ g.R ≤ B) ∧ 0 ≤ g.V ∧ g.V ≤ 2000
/-- One guess is below another one. -/
def Lower (g h : Guess) : Prop := g.R ≤ h.R ∧ endM g ≤ endM h
def age1 (g : Guess) : Guess := ⟨g.R + max 0 (g.V - 90), max 0 (g.V - 90)⟩
theorem age1_end {g : Guess} (h : 0 ≤ g.V ∧ g.V ≤ 2000) : endM (age1 g) = endM g := by
  unfold endM age1
  rw [stopM_next h.1 (by omega)]
  dsimp only
  omega
theorem age1_lower {g h : Guess} (hg : 0 ≤ g.V ∧ g.V ≤ 2000) (hh : 0 ≤ h.V ∧ h.V ≤ 2000) (L : Lower g h) : Lower (age1 g) (age1 h) := by
  refine ⟨?_, by rw [age1_end hg, age1_end hh]; exact L.2⟩
  have l1 := L.1
  have l2 := L.2
  unfold endM at l2
  rw [stopM_next hg.1 (by omega), stopM_next hh.1 (by omega)] at l2
  unfold age1
  dsimp only
  by_cases hle : max 0 (g.V - 90) ≤ max 0 (h.V - 90)
  · omega
  · have := stop_mono (show max 0 (h.V - 90) ≤ max 0 (g.V - 90) by omega) (by omega)
    omega
theorem age1_small {B : Int} {g : Guess} (h : Small B g) : Small (B + 2000) (age1 g) := by
  unfold Small age1 at *
  dsimp only
  omega
theorem ageN_lower : ∀ (n : Nat) {B : Int} {g h : Guess}, Small B g → Small B h → Lower g h → Lower (ageN n g) (ageN n h) ∧ Small (B + 2000 * n) (ageN n g) ∧ Small (B + 2000 * n) (ageN n h)
  | 0, B, g, h, hg, hh, L => by
    rw [show B + 2000 * ((0 : Nat) : Int) = B by omega]
    exact ⟨L, hg, hh⟩
  | n + 1, B, g, h, hg, hh, L => by
    have := ageN_lower n (age1_small hg) (age1_small hh) (age1_lower hg.2 hh.2 L)
    rw [show B + 2000 + 2000 * (n : Int) = B + 2000 * ((n + 1 : Nat) : Int) by omega] at this
    exact this
theorem ageM_small {B : Int} {g : Guess} (h : Small B g) (hB : B ≤ 1000000) (n : Int) : ageM g n = ageN (max 0 (min n 30)).toNat g := by
  unfold ageM
  rw [if_pos]
  have := h.1; have := h.2
  simp [saneM, sane1_iff]
  omega
theorem belowM_lower {g : Guess} {r v : Int} (h1 : saneM [g.R, g.V, r, v] = true) : belowM g r v = true ↔ Lower g ⟨r, v⟩ := by
  unfold belowM
  rw [h1]
  simp only [Bool.true_and, Bool.and_eq_true, decide_eq_true_eq]
  rfl
theorem sane4 {a b c d : Int} (h : (-4398046511104 ≤ a ∧ a ≤ 4398046511104) ∧ (-4398046511104 ≤ b ∧ b ≤ 4398046511104) ∧ (-4398046511104 ≤ c ∧ c ≤ 4398046511104) ∧ -4398046511104 ≤ d ∧ d ≤ 4398046511104) : saneM [a, b, c, d] = true := by
  simp [saneM, sane1_iff]; omega
theorem sane5 {a b c d e : Int} (h : (-4398046511104 ≤ a ∧ a ≤ 4398046511104) ∧ (-4398046511104 ≤ b ∧ b ≤ 4398046511104) ∧ (-4398046511104 ≤ c ∧ c ≤ 4398046511104) ∧ (-4398046511104 ≤ d ∧ d ≤ 4398046511104) ∧ -4398046511104 ≤ e ∧ e ≤ 4398046511104) : saneM [a, b, c, d, e] = true := by
  simp [saneM, sane1_iff]; omega
theorem safeM_iff {s v gap : Int} {g : Guess} (h : saneM [s, v, gap, g.R, g.V] = true) : safeM s v gap g = true ↔ Lower ⟨s + gap, v⟩ g := by
  unfold safeM
  rw [h]
  simp only [Bool.true_and, Bool.and_eq_true, decide_eq_true_eq]
  unfold Lower endM
  dsimp only
  constructor <;> rintro ⟨h1, h2⟩ <;> constructor <;> omega
theorem tmod_small (n : Int) : -100000 ≤ n.tmod 100000 ∧ n.tmod 100000 ≤ 100000 := by
  have := Int.tmod_lt_of_pos n (show (0 : Int) < 100000 by decide)
  have := Int.lt_tmod_of_pos n (show (0 : Int) < 100000 by decide)
  omega
theorem Lower.trans {a b c : Guess} (h : Lower a b) (h' : Lower b c) : Lower a c := ⟨Int.le_trans h.1 h'.1, Int.le_trans h.2 h'.2⟩
theorem emod_bd (n : Int) {m : Int} (hm : 0 < m) : 0 ≤ n % m ∧ n % m < m := ⟨Int.emod_nonneg n (by omega), Int.emod_lt_of_pos n hm⟩
theorem better_eq {g h : Guess} (hs : saneM [g.R, g.V, h.R, h.V] = true) : betterM g h = if g.R ≤ h.R ∧ endM g ≤ endM h then h else g := by
  unfold betterM; rw [if_pos hs]
theorem safe_round {g h : Guess} (hg : Small 100000 g) (hh : Small 100000 h) (L : Lower g h) (x : Int) (hx : x = -90 ∨ x = -50 ∨ x = -10 ∨ x = 30) : law09_ConvoySafe_l1 g h x = some (.go (x + 40)) := by
  unfold law09_ConvoySafe_l1
  have hg2 := hg.2
  have hh2 := hh.2
  have hg1 := hg.1
  have hh1 := hh.1
  rw [show decide (x ≤ 30) = true from decide_eq_true (by omega), (Age_eq g 1).1, ageM_small hg (by decide) 1, show (max 0 (min (1 : Int) 30)).toNat = 1 from rfl, show ageN 1 g = age1 g from rfl]
  simp only [cond_true, Option.bind_some, convoy_Below_eq]
  rw [w64_id (n := h.V + x) (by omega), mm2_max, mm2_min, w64_id (n := h.R + _) (by omega), w64_id (n := x + 40) (by omega)]
  generalize hw : max 0 (min (h.V + x) 2000) = w
  have w1 : max 0 (h.V - 90) ≤ w ∧ w ≤ 2000 := by omega
  have ha := age1_small hg
  have ha1 := ha.1
  have ha2 := ha.2
  have hb : belowM (age1 g) (h.R + w) w = true := by
    rw [belowM_lower (sane4 (by omega))]
    refine (age1_lower hg2 hh2 L).trans ⟨?_, ?_⟩
    · unfold age1; dsimp only; omega
    · have := stop_mono w1.1 (by omega)
      unfold endM age1; dsimp only; omega
  rw [hb]
  rfl
theorem law09_ConvoySafe_plain (a0 a1 : Guess) (a2 a3 a4 a5 a6 : Int) : law09_ConvoySafe a0 a1 a2 a3 a4 a5 a6 = some true := by
  have hgu : ∀ a : Guess, ∃ g, law09_guess a = some g ∧ Small 100000 g := by
    intro a
    refine ⟨⟨a.R.tmod 100000, a.V % 2001⟩, ?_, ?_⟩
    · unfold law09_guess
      rw [(kit_Mod_eq (m := 2001) (by decide) (by decide)).2]; rfl
    · have := tmod_small a.R
      have := emod_bd a.V (show (0 : Int) < 2001 by decide)
      unfold Small
      dsimp only
      omega
  obtain ⟨g, eg, hg⟩ := hgu a0
  obtain ⟨h, eh, hh⟩ := hgu a1
  have rs := tmod_small a2
  have vs := emod_bd a3 (show (0 : Int) < 2001 by decide)
  have vg := emod_bd a4 (show (0 : Int) < 20001 by decide)
  have vl := emod_bd a5 (show (0 : Int) < 20001 by decide)
  unfold law09_ConvoySafe
  rw [eg, eh, (kit_Mod_eq (m := 2001) (by decide) (by decide)).2, (kit_Mod_eq (m := 20001) (by decide) (by decide)).2, (kit_Mod_eq (m := 20001) (by decide) (by decide)).2]
  simp only [Option.bind_some]
  clear eg eh hgu
  generalize a2.tmod 100000 = s at *
  generalize a3 % 2001 = v at *
  generalize a4 % 20001 = gap at *
  generalize a5 % 20001 = less at *
  have hg1 := hg.1
  have hg2 := hg.2
  have hh1 := hh.1
  have hh2 := hh.2
  have hag : ageM g 1 = age1 g := by rw [ageM_small hg (by decide) 1]; rfl
  have ha := age1_small hg
  have ha1 := ha.1
  have ha2 := ha.2
  have hsg := sane4 (a := g.R) (b := g.V) (c := h.R) (d := h.V) (by omega)
  simp only [convoy_Safe_eq, convoy_Below_eq, convoy_Better_eq, (Age_eq _ _).1, Option.bind_some, hag]
  rw [w64_id (n := v - 90) (by omega), mm2_max, w64_id (n := s + _) (by omega), w64_id (n := gap - less) (by omega)]
  -- the first part
  have key1 : ∀ (f : Unit → Option Bool) (k : Bool → Option Bool), thenS (cond (safeM s v gap g) ((cond (!(!safeM (s + max 0 (v - 90)) (max 0 (v - 90)) gap (age1 g))) (some (safeM s v (gap - less) g)) (some default)).bind fun v9 => (cond (!((!safeM (s + max 0 (v - 90)) (max 0 (v - 90)) gap (age1 g)) || (!v9))) (some (betterM g h)) (some default)).bind fun v10 => (cond (!((!safeM (s + max 0 (v - 90)) (max 0 (v - 90)) gap (age1 g)) || (!v9))) (some (safeM s v gap v10)) (some default)).bind fun v11 => cond (((!safeM (s + max 0 (v - 90)) (max 0 (v - 90)) gap (age1 g)) || (!v9)) || (!v11)) (some (.inr false)) (some (.inl ()))) (some (.inl ()))) f k = f () := by
    intro f k
    cases hs : safeM s v gap g
    · rfl
    · have L := (safeM_iff (sane5 (by omega))).1 hs
      have e1 : safeM (s + max 0 (v - 90)) (max 0 (v - 90)) gap (age1 g) = true := by
        rw [safeM_iff (sane5 (by omega))]
        have := age1_lower (g := ⟨s + gap, v⟩) (by dsimp only; omega) hg2 L
        unfold age1 at this ⊢
        dsimp only at this
        rwa [show s + max 0 (v - 90) + gap = s + gap + max 0 (v - 90) by omega]
      have e2 : safeM s v (gap - less) g = true := by
        rw [safeM_iff (sane5 (by omega))]
        refine Lower.trans ⟨?_, ?_⟩ L
        · dsimp only; omega
        · unfold endM; dsimp only; omega
      have e3 : safeM s v gap (betterM g h) = true := by
        rw [better_eq hsg]
        split
        · rename_i q
          rw [safeM_iff (sane5 (by omega))]
          exact L.trans q
        · exact hs
      simp only [e1, e2, e3, Bool.not_true, Bool.not_false, cond_true, Option.bind_some, Bool.or_self, cond_false, thenS]
  refine (key1 _ _).trans ?_
  have e4 : belowM g g.R g.V = true := (belowM_lower (sane4 (by omega))).2 ⟨Int.le_refl _, Int.le_refl _⟩
  rw [e4]
  simp only [Bool.not_true, cond_false]
  cases hb : belowM g h.R h.V
  · simp only [cond_false, thenS, awake_eq, Option.bind_some]
  · have L : Lower g h := (belowM_lower (sane4 (by omega))).1 hb
    simp only [cond_true, (kit_Mod_eq (n := a6) (m := 40) (by decide) (by decide)).1, Option.bind_some]
    have hn := emod_bd a6 (show (0 : Int) < 40 by decide)
    rw [ageM_small hg (by decide), ageM_small hh (by decide)]
    generalize hk : (max 0 (min (a6 % 40) 30)).toNat = k
    have hk2 : k ≤ 30 := by omega
    obtain ⟨L1, s1, s2⟩ := ageN_lower k hg hh L
    have b1 := s1.1; have b2 := s1.2; have b3 := s2.1; have b4 := s2.2
    have e5 : belowM (ageN k g) (ageN k h).R (ageN k h).V = true := (belowM_lower (sane4 (by omega))).2 L1
    have e6 : betterM g h = h := by rw [better_eq hsg]; exact if_pos L
    have e7 : belowM h s v = true → belowM g s v = true := fun q => (belowM_lower (sane4 (by omega))).2 (L.trans ((belowM_lower (sane4 (by omega))).1 q))
    have hloop : loop (law09_ConvoySafe_l1 g h) (-90) = some (.inl ()) := by
      rw [loop_go (safe_round hg hh L (-90) (.inl rfl)), show (-90 + 40 : Int) = -50 from rfl, loop_go (safe_round hg hh L (-50) (.inr (.inl rfl))), show (-50 + 40 : Int) = -10 from rfl, loop_go (safe_round hg hh L (-10) (.inr (.inr (.inl rfl)))), show (-10 + 40 : Int) = 30 from rfl, loop_go (safe_round hg hh L 30 (.inr (.inr (.inr rfl)))), show (30 + 40 : Int) = 70 from rfl]
      exact loop_out (by unfold law09_ConvoySafe_l1; rfl)
    rw [e5, e6, hloop]
    simp only [Bool.not_true, Bool.not_false, cond_true, Option.bind_some, Bool.true_and, Bool.false_or]
    cases hq : belowM h s v
    · simp only [Bool.false_and, cond_false, cond_true, Bool.not_false, Bool.not_true, Option.bind_some, beq_self_eq_true, Bool.and_self, Bool.or_self, thenS, awake_eq]
    · rw [e7 hq]
      simp only [cond_true, Bool.not_true, Bool.and_false, Bool.not_false, cond_false, Option.bind_some, beq_self_eq_true, Bool.and_self, Bool.or_self, thenS, awake_eq]
end Go.Abs.Convoy
