/-
  Proved: for every input, RoadsWorks returns true, and its arguments read afterwards as they read before.
  Conditions: none beyond those of the given row.
-/
import Derived.Test.YtimbepcdlehjjaaPlain
import Derived.Test.YtimbepcdlehjjaaRows
import Derived.WalkKit
namespace Go.Abs.Roads
open Go Go.Abs Go.Proofs
theorem rd3 : Rd Try.prog 3 eInt_i64 wI64 := rd_i64 Try.underlying3
theorem rd2 : Rd Try.prog 2 eInt_i64 wI64 := rd_i64 Try.underlying2
theorem rd22 : Rd Try.prog 22 eA22 (fun x : (Int × Int × Int × Int × Int) => wI64 x.1 ∧ wI64 x.2.1 ∧ wI64 x.2.2.1 ∧ wI64 x.2.2.2.1 ∧ wI64 x.2.2.2.2) :=
  rd_map (rd_array Try.underlying22 (wf := _) [(Field.mk "" 2 0 false "" "" 0), (Field.mk "" 2 1 false "" "" 0), (Field.mk "" 2 2 false "" "" 0), (Field.mk "" 2 3 false "" "" 0), (Field.mk "" 2 4 false "" "" 0)] (by kernel_rfl) (rdf_cons (f := Field.mk "" 2 0 false "" "" 0) (n := 1) rd2 rfl (fun _ => rfl) (rdf_cons (f := Field.mk "" 2 1 false "" "" 0) (n := 1) rd2 rfl (fun _ => rfl) (rdf_cons (f := Field.mk "" 2 2 false "" "" 0) (n := 1) rd2 rfl (fun _ => rfl) (rdf_cons (f := Field.mk "" 2 3 false "" "" 0) (n := 1) rd2 rfl (fun _ => rfl) (rdf_cons (f := Field.mk "" 2 4 false "" "" 0) (n := 1) rd2 rfl (fun _ => rfl) rdf_nil))))) (by intro y; kernel_rfl)) eA22 (fun x : (Int × Int × Int × Int × Int) => wI64 x.1 ∧ wI64 x.2.1 ∧ wI64 x.2.2.1 ∧ wI64 x.2.2.2.1 ∧ wI64 x.2.2.2.2) (fun y => (y.1, y.2.1, y.2.2.1, y.2.2.2.1, y.2.2.2.2.1)) (fun _ => rfl) (fun y h => ⟨h.1, h.2.1, h.2.2.1, h.2.2.2.1, h.2.2.2.2.1⟩)
end Go.Abs.Roads

namespace Go.Proofs.Ytimbepcdlehjjaa.roadsWorks
open Go.ChangeShapes Go.WideShapes Go.ChangeAt Go.RowKit Go.Abs Go.Abs.Roads
set_option linter.unusedVariables false

theorem own : ownKnob Try.prog.godebug = none := by kernel_rfl
theorem laidOut : laidOutB Try.prog = true := by kernel_rfl

set_option maxRecDepth 100000 in
theorem lifted (os : Os) (started : os.Started) (H : Type) (enc : TypeId × Value → H) :
    ReturnsInHanded {} Try.checked os 3 .any (Rows.roadsWorksSpec.pre6 enc Try.prog Try.f3 Rows.roadsWorksRow.domain false) (Rows.roadsWorksSpec.post enc Try.prog Try.f3 false true false false) := by
  refine returnsInHanded_of_change (C := Try.checked) own started (by kernel_rfl) Try.func3
    (ChangeSpec.witness6 (enc := enc) (C := Try.checked) false ⟨#[], #[.int .i64 0, .agg #[.int .i64 0, .int .i64 0, .int .i64 0, .int .i64 0, .int .i64 0], .int .i64 0, .int .i64 0], []⟩ 8 (by kernel_rfl) (by kernel_rfl) (by kernel_rfl) (by kernel_rfl)) ?_
  intro W base args ds gs before hval0 hW hcnd _
  have hval : ∀ (j : Nat) t v, Try.f3.params[j]? = some t → args[j]? = some v → Value.okWide Try.prog W .any base t v := hval0
  have hW' := hW
  obtain ⟨p, q, hA0, hV, rfl, hfz, hnd⟩ := hW
  have hA : DataW.TrodAll enc Try.prog W 0 (fun _ => true) true Try.f3.params.toList args.toList ds p := hA0
  rw [Try.params3] at hA hval
  obtain ⟨v0, vs0, d0, ds0, p0, q0, hargs, rfl, rfl, h0, r0⟩ := trodAll_cons hA
  obtain ⟨v1, vs1, d1, ds1, p1, q1, rfl, rfl, rfl, h1, r1⟩ := trodAll_cons r0
  obtain ⟨v2, vs2, d2, ds2, p2, q2, rfl, rfl, rfl, h2, r2⟩ := trodAll_cons r1
  obtain ⟨v3, vs3, d3, ds3, p3, q3, rfl, rfl, rfl, h3, r3⟩ := trodAll_cons r2
  obtain ⟨rfl, rfl, rfl⟩ := trodAll_nil r3
  obtain rfl : args = #[v0, v1, v2, v3] := by cases args; simp_all
  obtain ⟨rfl, rfl⟩ := trodVars_none hV
  have k0 := h0
  have lt0 : ∀ x ∈ p0, x.block < W.heap.size := by obtain ⟨m, hm⟩ := k0; exact DataW.trod_lt m _ _ _ hm
  obtain ⟨a0, w0, e0⟩ := arg_one rd3 (by obtain ⟨_, rfl⟩ := okWide_int Try.underlying3 (hval 0 3 v0 rfl rfl); rfl) h0
  have k1 := h1
  have lt1 : ∀ x ∈ p1, x.block < W.heap.size := by obtain ⟨m, hm⟩ := k1; exact DataW.trod_lt m _ _ _ hm
  obtain ⟨a1, w1, e1⟩ := arg_aggA rd22 Try.underlying22 (hval 1 22 v1 rfl rfl) h1
  have k2 := h2
  have lt2 : ∀ x ∈ p2, x.block < W.heap.size := by obtain ⟨m, hm⟩ := k2; exact DataW.trod_lt m _ _ _ hm
  obtain ⟨a2, w2, e2⟩ := arg_one rd2 (by obtain ⟨_, rfl⟩ := okWide_int Try.underlying2 (hval 2 2 v2 rfl rfl); rfl) h2
  have k3 := h3
  have lt3 : ∀ x ∈ p3, x.block < W.heap.size := by obtain ⟨m, hm⟩ := k3; exact DataW.trod_lt m _ _ _ hm
  obtain ⟨a3, w3, e3⟩ := arg_one rd2 (by obtain ⟨_, rfl⟩ := okWide_int Try.underlying2 (hval 3 2 v3 rfl rfl); rfl) h3
  clear hA0 hval0
  refine (law_walk (vs := [v0, v1, v2, v3]) (law03_RoadsWorks_ok a0 a1 a2 a3 _ (law03_RoadsWorks_plain a0 a1 a2 a3)) rfl ?_).mono fun e W' ⟨he, bel⟩ => ?_
  · intro i d hi
    match i, hi with
    | 0, hi => cases hi; exact e0
    | 1, hi => cases hi; exact e1
    | 2, hi => cases hi; exact e2
    | 3, hi => cases hi; exact e3
    | i + 4, hi => simp at hi
  · subst he
    exact ⟨_, rfl, _, _, _, [], _, [], hW', trodAll_mk1 (shut_bool Try.underlying4 _), (trodAll_cons_mk (Below.trod laidOut (by kernel_rfl) (of_decide_eq_true (by kernel_rfl)) k0 bel lt0) (trodAll_cons_mk (Below.trod laidOut (by kernel_rfl) (of_decide_eq_true (by kernel_rfl)) k1 bel lt1) (trodAll_cons_mk (Below.trod laidOut (by kernel_rfl) (of_decide_eq_true (by kernel_rfl)) k2 bel lt2) (trodAll_cons_mk (Below.trod laidOut (by kernel_rfl) (of_decide_eq_true (by kernel_rfl)) k3 bel lt3) trodAll_mk0)))), rfl, bel.frame _, fun h => by cases h⟩

theorem over : Rows.roadsWorksRow.holds Try.pinned (OpenSpec.ofChange Rows.roadsWorksSpec) :=
  OpenClaim.holds_of_wide 3 Try.f3 rfl rfl rfl rfl rfl rfl rfl ⟨rfl, rfl, rfl, rfl, rfl⟩ rfl rfl rfl rfl rfl (by kernel_rfl) Try.func3 (by kernel_rfl)
    (of_decide_eq_true (by kernel_rfl)) (by unfold Func.isWrapper; first | (rw [if_pos (by decide +kernel)]; kernel_rfl) | (rw [if_neg (by decide +kernel)]; exact ⟨rfl, rfl⟩))
    (fun os started H enc _ => lifted os started H enc)

end Go.Proofs.Ytimbepcdlehjjaa.roadsWorks

namespace Go.Proofs.Ytimbepcdlehjjaa
theorem roadsWorks_holds : Rows.RoadsWorksSaid := roadsWorks.over
end Go.Proofs.Ytimbepcdlehjjaa
