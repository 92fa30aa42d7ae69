/-
  Proved: for every input, CurveJoins returns true, and its arguments read afterwards as they read before.
  Conditions: none beyond those of the given row.
-/
import Derived.Test.YtkpmfcpgmhkleaaPlain
import Derived.Test.YtkpmfcpgmhkleaaRows
import Derived.WalkKit
namespace Go.Abs.Curve
open Go Go.Abs Go.Proofs
theorem rd2 : Rd Try.prog 2 eInt_i64 wI64 := rd_i64 Try.underlying2
theorem rd43 : Rd Try.prog 43 eSpot (fun x : Spot => wI64 x.X ∧ wI64 x.Y) :=
  rd_map (rd_struct Try.underlying43 (wf := _) (rdf_cons (n := 1) rd2 rfl (fun _ => rfl) (rdf_cons (n := 1) rd2 rfl (fun _ => rfl) rdf_nil)) (by intro y; kernel_rfl)) eSpot (fun x : Spot => wI64 x.X ∧ wI64 x.Y) (fun y => ⟨y.1, y.2.1⟩) (fun _ => rfl) (fun y h => ⟨h.1, h.2.1⟩)
theorem rd22 : Rd Try.prog 22 eL_Spot (fun xs : (List Spot) => ∀ a ∈ xs, (fun x : Spot => wI64 x.X ∧ wI64 x.Y) a) := rd_slice (sz := 2) Try.underlying22 rd43 (fun _ => rfl) (by decide) (by kernel_rfl)
theorem rd24 : Rd Try.prog 24 eCurve (fun x : Curve => (fun xs : (List Spot) => ∀ a ∈ xs, (fun x : Spot => wI64 x.X ∧ wI64 x.Y) a) x.Pts) :=
  rd_map (rd_struct Try.underlying24 (wf := _) (rdf_cons (n := 1) rd22 rfl (fun _ => rfl) rdf_nil) (by intro y; kernel_rfl)) eCurve (fun x : Curve => (fun xs : (List Spot) => ∀ a ∈ xs, (fun x : Spot => wI64 x.X ∧ wI64 x.Y) a) x.Pts) (fun y => ⟨y.1⟩) (fun _ => rfl) (fun y h => h.1)
theorem rd3 : Rd Try.prog 3 eInt_i64 wI64 := rd_i64 Try.underlying3
theorem rd35 : Rd Try.prog 35 eL_Int_i64 (fun xs : (List Int) => ∀ a ∈ xs, wI64 a) := rd_slice (sz := 1) Try.underlying35 rd3 (fun _ => rfl) (by decide) (by kernel_rfl)
theorem rd37 : Rd Try.prog 37 eKitChain (fun x : KitChain => wI64 x.X ∧ wI64 x.Y ∧ (fun xs : (List Int) => ∀ a ∈ xs, wI64 a) x.Steps) :=
  rd_map (rd_struct Try.underlying37 (wf := _) (rdf_cons (n := 1) rd2 rfl (fun _ => rfl) (rdf_cons (n := 1) rd2 rfl (fun _ => rfl) (rdf_cons (n := 1) rd35 rfl (fun _ => rfl) rdf_nil))) (by intro y; kernel_rfl)) eKitChain (fun x : KitChain => wI64 x.X ∧ wI64 x.Y ∧ (fun xs : (List Int) => ∀ a ∈ xs, wI64 a) x.Steps) (fun y => ⟨y.1, y.2.1, y.2.2.1⟩) (fun _ => rfl) (fun y h => ⟨h.1, h.2.1, h.2.2.1⟩)
end Go.Abs.Curve

namespace Go.Proofs.Ytkpmfcpgmhkleaa.curveJoins
open Go.ChangeShapes Go.WideShapes Go.ChangeAt Go.RowKit Go.Abs Go.Abs.Curve
set_option linter.unusedVariables false

theorem own : ownKnob Try.prog.godebug = none := by kernel_rfl
theorem laidOut : laidOutB Try.prog = true := by kernel_rfl

set_option maxRecDepth 100000 in
theorem lifted (os : Os) (started : os.Started) (H : Type) (enc : TypeId × Value → H) :
    ReturnsInHanded {} Try.checked os 9 .any (Rows.curveJoinsSpec.pre6 enc Try.prog Try.f9 Rows.curveJoinsRow.domain false) (Rows.curveJoinsSpec.post enc Try.prog Try.f9 false true false false) := by
  refine returnsInHanded_of_change (C := Try.checked) own started (by kernel_rfl) Try.func9
    (ChangeSpec.witness6 (enc := enc) (C := Try.checked) false ⟨#[], #[.agg #[.slice none 0 0], .agg #[.slice none 0 0], .agg #[.int .i64 0, .int .i64 0, .slice none 0 0], .agg #[.int .i64 0, .int .i64 0, .slice none 0 0]], []⟩ 8 (by kernel_rfl) (by kernel_rfl) (by kernel_rfl) (by kernel_rfl)) ?_
  intro W base args ds gs before hval0 hW hcnd _
  have hval : ∀ (j : Nat) t v, Try.f9.params[j]? = some t → args[j]? = some v → Value.okWide Try.prog W .any base t v := hval0
  have hW' := hW
  obtain ⟨p, q, hA0, hV, rfl, hfz, hnd⟩ := hW
  have hA : DataW.TrodAll enc Try.prog W 0 (fun _ => true) true Try.f9.params.toList args.toList ds p := hA0
  rw [Try.params9] at hA hval
  obtain ⟨v0, vs0, d0, ds0, p0, q0, hargs, rfl, rfl, h0, r0⟩ := trodAll_cons hA
  obtain ⟨v1, vs1, d1, ds1, p1, q1, rfl, rfl, rfl, h1, r1⟩ := trodAll_cons r0
  obtain ⟨v2, vs2, d2, ds2, p2, q2, rfl, rfl, rfl, h2, r2⟩ := trodAll_cons r1
  obtain ⟨v3, vs3, d3, ds3, p3, q3, rfl, rfl, rfl, h3, r3⟩ := trodAll_cons r2
  obtain ⟨rfl, rfl, rfl⟩ := trodAll_nil r3
  obtain rfl : args = #[v0, v1, v2, v3] := by cases args; simp_all
  obtain ⟨rfl, rfl⟩ := trodVars_none hV
  have k0 := h0
  have lt0 : ∀ x ∈ p0, x.block < W.heap.size := by obtain ⟨m, hm⟩ := k0; exact DataW.trod_lt m _ _ _ hm
  obtain ⟨a0, w0, e0⟩ := arg_agg rd24 Try.underlying24 (hval 0 24 v0 rfl rfl) h0
  have k1 := h1
  have lt1 : ∀ x ∈ p1, x.block < W.heap.size := by obtain ⟨m, hm⟩ := k1; exact DataW.trod_lt m _ _ _ hm
  obtain ⟨a1, w1, e1⟩ := arg_agg rd24 Try.underlying24 (hval 1 24 v1 rfl rfl) h1
  have k2 := h2
  have lt2 : ∀ x ∈ p2, x.block < W.heap.size := by obtain ⟨m, hm⟩ := k2; exact DataW.trod_lt m _ _ _ hm
  obtain ⟨a2, w2, e2⟩ := arg_agg rd37 Try.underlying37 (hval 2 37 v2 rfl rfl) h2
  have k3 := h3
  have lt3 : ∀ x ∈ p3, x.block < W.heap.size := by obtain ⟨m, hm⟩ := k3; exact DataW.trod_lt m _ _ _ hm
  obtain ⟨a3, w3, e3⟩ := arg_agg rd37 Try.underlying37 (hval 3 37 v3 rfl rfl) h3
  clear hA0 hval0
  refine (law_walk (vs := [v0, v1, v2, v3]) (law01_CurveJoins_ok a0 a1 a2 a3 _ (law01_CurveJoins_plain a0 a1 a2 a3 w0 w1 w2 w3)) rfl ?_).mono fun e W' ⟨he, bel⟩ => ?_
  · intro i d hi
    match i, hi with
    | 0, hi => cases hi; exact e0
    | 1, hi => cases hi; exact e1
    | 2, hi => cases hi; exact e2
    | 3, hi => cases hi; exact e3
    | i + 4, hi => simp at hi
  · subst he
    exact ⟨_, rfl, _, _, _, [], _, [], hW', trodAll_mk1 (shut_bool Try.underlying4 _), (trodAll_cons_mk (Below.trod laidOut (by kernel_rfl) (of_decide_eq_true (by kernel_rfl)) k0 bel lt0) (trodAll_cons_mk (Below.trod laidOut (by kernel_rfl) (of_decide_eq_true (by kernel_rfl)) k1 bel lt1) (trodAll_cons_mk (Below.trod laidOut (by kernel_rfl) (of_decide_eq_true (by kernel_rfl)) k2 bel lt2) (trodAll_cons_mk (Below.trod laidOut (by kernel_rfl) (of_decide_eq_true (by kernel_rfl)) k3 bel lt3) trodAll_mk0)))), rfl, bel.frame _, fun h => by cases h⟩

theorem over : Rows.curveJoinsRow.holds Try.pinned (OpenSpec.ofChange Rows.curveJoinsSpec) :=
  OpenClaim.holds_of_wide 9 Try.f9 rfl rfl rfl rfl rfl rfl rfl ⟨rfl, rfl, rfl, rfl, rfl⟩ rfl rfl rfl rfl rfl (by kernel_rfl) Try.func9 (by kernel_rfl)
    (of_decide_eq_true (by kernel_rfl)) (by unfold Func.isWrapper; first | (rw [if_pos (by decide +kernel)]; kernel_rfl) | (rw [if_neg (by decide +kernel)]; exact ⟨rfl, rfl⟩))
    (fun os started H enc _ => lifted os started H enc)

end Go.Proofs.Ytkpmfcpgmhkleaa.curveJoins

namespace Go.Proofs.Ytkpmfcpgmhkleaa
theorem curveJoins_holds : Rows.CurveJoinsSaid := curveJoins.over
end Go.Proofs.Ytkpmfcpgmhkleaa
