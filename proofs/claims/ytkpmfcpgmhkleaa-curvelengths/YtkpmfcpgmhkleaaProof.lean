/-
  Proved: for every input, CurveLengths returns true, and its arguments read afterwards as they read before.
  Conditions: none beyond those of the given row.
-/
import Derived.Test.YtkpmfcpgmhkleaaPlain
import Derived.Test.YtkpmfcpgmhkleaaRows
import Derived.WalkKit
namespace Go.Abs.Curve
open Go Go.Abs Go.Proofs
theorem rd2 : Rd Try.prog 2 eInt_i64 wI64 := rd_i64 Try.underlying2
theorem rd3 : Rd Try.prog 3 eInt_i64 wI64 := rd_i64 Try.underlying3
theorem rd35 : Rd Try.prog 35 eL_Int_i64 (fun xs : (List Int) => ∀ a ∈ xs, wI64 a) := rd_slice (sz := 1) Try.underlying35 rd3 (fun _ => rfl) (by decide) (by kernel_rfl)
theorem rd37 : Rd Try.prog 37 eKitChain (fun x : KitChain => wI64 x.X ∧ wI64 x.Y ∧ (fun xs : (List Int) => ∀ a ∈ xs, wI64 a) x.Steps) :=
  rd_map (rd_struct Try.underlying37 (wf := _) (rdf_cons (n := 1) rd2 rfl (fun _ => rfl) (rdf_cons (n := 1) rd2 rfl (fun _ => rfl) (rdf_cons (n := 1) rd35 rfl (fun _ => rfl) rdf_nil))) (by intro y; kernel_rfl)) eKitChain (fun x : KitChain => wI64 x.X ∧ wI64 x.Y ∧ (fun xs : (List Int) => ∀ a ∈ xs, wI64 a) x.Steps) (fun y => ⟨y.1, y.2.1, y.2.2.1⟩) (fun _ => rfl) (fun y h => ⟨h.1, h.2.1, h.2.2.1⟩)
end Go.Abs.Curve

namespace Go.Proofs.Ytkpmfcpgmhkleaa.curveLengths
open Go.ChangeShapes Go.WideShapes Go.ChangeAt Go.RowKit Go.Abs Go.Abs.Curve
set_option linter.unusedVariables false

theorem own : ownKnob Try.prog.godebug = none := by kernel_rfl
theorem laidOut : laidOutB Try.prog = true := by kernel_rfl

set_option maxRecDepth 100000 in
theorem lifted (os : Os) (started : os.Started) (H : Type) (enc : TypeId × Value → H) :
    ReturnsInHanded {} Try.checked os 5 .any (Rows.curveLengthsSpec.pre6 enc Try.prog Try.f5 Rows.curveLengthsRow.domain false) (Rows.curveLengthsSpec.post enc Try.prog Try.f5 false true false false) := by
  refine returnsInHanded_of_change (C := Try.checked) own started (by kernel_rfl) Try.func5
    (ChangeSpec.witness6 (enc := enc) (C := Try.checked) false ⟨#[], #[.agg #[.int .i64 0, .int .i64 0, .slice none 0 0]], []⟩ 8 (by kernel_rfl) (by kernel_rfl) (by kernel_rfl) (by kernel_rfl)) ?_
  intro W base args ds gs before hval0 hW hcnd _
  have hval : ∀ (j : Nat) t v, Try.f5.params[j]? = some t → args[j]? = some v → Value.okWide Try.prog W .any base t v := hval0
  have hW' := hW
  obtain ⟨p, q, hA0, hV, rfl, hfz, hnd⟩ := hW
  have hA : DataW.TrodAll enc Try.prog W 0 (fun _ => true) true Try.f5.params.toList args.toList ds p := hA0
  rw [Try.params5] at hA hval
  obtain ⟨v0, vs0, d0, ds0, p0, q0, hargs, rfl, rfl, h0, r0⟩ := trodAll_cons hA
  obtain ⟨rfl, rfl, rfl⟩ := trodAll_nil r0
  obtain rfl : args = #[v0] := by cases args; simp_all
  obtain ⟨rfl, rfl⟩ := trodVars_none hV
  have k0 := h0
  have lt0 : ∀ x ∈ p0, x.block < W.heap.size := by obtain ⟨m, hm⟩ := k0; exact DataW.trod_lt m _ _ _ hm
  obtain ⟨a0, w0, e0⟩ := arg_agg rd37 Try.underlying37 (hval 0 37 v0 rfl rfl) h0
  clear hA0 hval0
  refine (law_walk (vs := [v0]) (law01_CurveLengths_ok a0 _ (law01_CurveLengths_plain a0 w0)) rfl ?_).mono fun e W' ⟨he, bel⟩ => ?_
  · intro i d hi
    match i, hi with
    | 0, hi => cases hi; exact e0
    | i + 1, hi => simp at hi
  · subst he
    exact ⟨_, rfl, _, _, _, [], _, [], hW', trodAll_mk1 (shut_bool Try.underlying4 _), (trodAll_cons_mk (Below.trod laidOut (by kernel_rfl) (of_decide_eq_true (by kernel_rfl)) k0 bel lt0) trodAll_mk0), rfl, bel.frame _, fun h => by cases h⟩

theorem over : Rows.curveLengthsRow.holds Try.pinned (OpenSpec.ofChange Rows.curveLengthsSpec) :=
  OpenClaim.holds_of_wide 5 Try.f5 rfl rfl rfl rfl rfl rfl rfl ⟨rfl, rfl, rfl, rfl, rfl⟩ rfl rfl rfl rfl rfl (by kernel_rfl) Try.func5 (by kernel_rfl)
    (of_decide_eq_true (by kernel_rfl)) (by unfold Func.isWrapper; first | (rw [if_pos (by decide +kernel)]; kernel_rfl) | (rw [if_neg (by decide +kernel)]; exact ⟨rfl, rfl⟩))
    (fun os started H enc _ => lifted os started H enc)

end Go.Proofs.Ytkpmfcpgmhkleaa.curveLengths

namespace Go.Proofs.Ytkpmfcpgmhkleaa
theorem curveLengths_holds : Rows.CurveLengthsSaid := curveLengths.over
end Go.Proofs.Ytkpmfcpgmhkleaa
