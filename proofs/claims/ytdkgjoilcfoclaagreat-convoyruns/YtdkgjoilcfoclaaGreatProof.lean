/-
  Proved: for every input, ConvoyRuns returns true, and its arguments read afterwards as they read before.
  Conditions: none beyond those of the given row.
-/
import Derived.Test.YtdkgjoilcfoclaaGreatPlainB
import Derived.Test.YtdkgjoilcfoclaaGreatRows
import Derived.WalkKit
namespace Go.Abs.Convoyz
open Go Go.Abs Go.Proofs
theorem rd3 : Rd Tryz.prog 3 eInt_i64 wI64 := rd_i64 Tryz.underlying3
theorem rd22 : Rd Tryz.prog 22 eL_Int_i64 (fun xs : (List Int) => ∀ a ∈ xs, wI64 a) := rd_slice (sz := 1) Tryz.underlying22 rd3 (fun _ => rfl) (by decide) (by kernel_rfl)
theorem rd2 : Rd Tryz.prog 2 eInt_i64 wI64 := rd_i64 Tryz.underlying2
theorem rd43 : Rd Tryz.prog 43 eNote (fun x : Note => wI64 x.Kind ∧ wI64 x.From ∧ wI64 x.To ∧ wI64 x.Stamp ∧ wI64 x.R ∧ wI64 x.V ∧ wI64 x.Until) :=
  rd_map (rd_struct Tryz.underlying43 (wf := _) (rdf_cons (n := 1) rd3 rfl (fun _ => rfl) (rdf_cons (n := 1) rd3 rfl (fun _ => rfl) (rdf_cons (n := 1) rd3 rfl (fun _ => rfl) (rdf_cons (n := 1) rd2 rfl (fun _ => rfl) (rdf_cons (n := 1) rd2 rfl (fun _ => rfl) (rdf_cons (n := 1) rd2 rfl (fun _ => rfl) (rdf_cons (n := 1) rd2 rfl (fun _ => rfl) rdf_nil))))))) (by intro y; kernel_rfl)) eNote (fun x : Note => wI64 x.Kind ∧ wI64 x.From ∧ wI64 x.To ∧ wI64 x.Stamp ∧ wI64 x.R ∧ wI64 x.V ∧ wI64 x.Until) (fun y => ⟨y.1, y.2.1, y.2.2.1, y.2.2.2.1, y.2.2.2.2.1, y.2.2.2.2.2.1, y.2.2.2.2.2.2.1⟩) (fun _ => rfl) (fun y h => ⟨h.1, h.2.1, h.2.2.1, h.2.2.2.1, h.2.2.2.2.1, h.2.2.2.2.2.1, h.2.2.2.2.2.2.1⟩)
theorem rd23 : Rd Tryz.prog 23 eL_Note (fun xs : (List Note) => ∀ a ∈ xs, (fun x : Note => wI64 x.Kind ∧ wI64 x.From ∧ wI64 x.To ∧ wI64 x.Stamp ∧ wI64 x.R ∧ wI64 x.V ∧ wI64 x.Until) a) := rd_slice (sz := 7) Tryz.underlying23 rd43 (fun _ => rfl) (by decide) (by kernel_rfl)
end Go.Abs.Convoyz

namespace Go.Proofs.YtdkgjoilcfoclaaGreat.convoyRuns
open Go.ChangeShapes Go.WideShapes Go.ChangeAt Go.RowKit Go.Abs Go.Abs.Convoyz
set_option linter.unusedVariables false

theorem own : ownKnob Tryz.prog.godebug = none := by kernel_rfl
theorem laidOut : laidOutB Tryz.prog = true := by kernel_rfl

set_option maxRecDepth 100000 in
theorem lifted (os : Os) (started : os.Started) (H : Type) (enc : TypeId × Value → H) :
    ReturnsInHanded {} Tryz.checked os 3 .any (Rows.convoyRunsSpec.pre6 enc Tryz.prog Tryz.f3 Rows.convoyRunsRow.domain false) (Rows.convoyRunsSpec.post enc Tryz.prog Tryz.f3 false true false false) := by
  refine returnsInHanded_of_change (C := Tryz.checked) own started (by kernel_rfl) Tryz.func3
    (ChangeSpec.witness6 (enc := enc) (C := Tryz.checked) false ⟨#[], #[.slice none 0 0, .int .i64 0, .slice none 0 0], []⟩ 8 (by kernel_rfl) (by kernel_rfl) (by kernel_rfl) (by kernel_rfl)) ?_
  intro W base args ds gs before hval0 hW hcnd _
  have hval : ∀ (j : Nat) t v, Tryz.f3.params[j]? = some t → args[j]? = some v → Value.okWide Tryz.prog W .any base t v := hval0
  have hW' := hW
  obtain ⟨p, q, hA0, hV, rfl, hfz, hnd⟩ := hW
  have hA : DataW.TrodAll enc Tryz.prog W 0 (fun _ => true) true Tryz.f3.params.toList args.toList ds p := hA0
  rw [Tryz.params3] at hA hval
  obtain ⟨v0, vs0, d0, ds0, p0, q0, hargs, rfl, rfl, h0, r0⟩ := trodAll_cons hA
  obtain ⟨v1, vs1, d1, ds1, p1, q1, rfl, rfl, rfl, h1, r1⟩ := trodAll_cons r0
  obtain ⟨v2, vs2, d2, ds2, p2, q2, rfl, rfl, rfl, h2, r2⟩ := trodAll_cons r1
  obtain ⟨rfl, rfl, rfl⟩ := trodAll_nil r2
  obtain rfl : args = #[v0, v1, v2] := by cases args; simp_all
  obtain ⟨rfl, rfl⟩ := trodVars_none hV
  have k0 := h0
  have lt0 : ∀ x ∈ p0, x.block < W.heap.size := by obtain ⟨m, hm⟩ := k0; exact DataW.trod_lt m _ _ _ hm
  obtain ⟨a0, w0, e0⟩ := arg_one rd22 (by obtain ⟨_, _, _, rfl⟩ := okWide_slice Tryz.underlying22 (hval 0 22 v0 rfl rfl); rfl) h0
  have k1 := h1
  have lt1 : ∀ x ∈ p1, x.block < W.heap.size := by obtain ⟨m, hm⟩ := k1; exact DataW.trod_lt m _ _ _ hm
  obtain ⟨a1, w1, e1⟩ := arg_one rd3 (by obtain ⟨_, rfl⟩ := okWide_int Tryz.underlying3 (hval 1 3 v1 rfl rfl); rfl) h1
  have k2 := h2
  have lt2 : ∀ x ∈ p2, x.block < W.heap.size := by obtain ⟨m, hm⟩ := k2; exact DataW.trod_lt m _ _ _ hm
  obtain ⟨a2, w2, e2⟩ := arg_one rd23 (by obtain ⟨_, _, _, rfl⟩ := okWide_slice Tryz.underlying23 (hval 2 23 v2 rfl rfl); rfl) h2
  clear hA0 hval0
  refine (law_walk (vs := [v0, v1, v2]) (law09_ConvoyRuns_ok a0 a1 a2 _ (law09_ConvoyRuns_plain a0 a1 a2)) rfl ?_).mono fun e W' ⟨he, bel⟩ => ?_
  · intro i d hi
    match i, hi with
    | 0, hi => cases hi; exact e0
    | 1, hi => cases hi; exact e1
    | 2, hi => cases hi; exact e2
    | i + 3, hi => simp at hi
  · subst he
    exact ⟨_, rfl, _, _, _, [], _, [], hW', trodAll_mk1 (shut_bool Tryz.underlying4 _), (trodAll_cons_mk (Below.trod laidOut (by kernel_rfl) (of_decide_eq_true (by kernel_rfl)) k0 bel lt0) (trodAll_cons_mk (Below.trod laidOut (by kernel_rfl) (of_decide_eq_true (by kernel_rfl)) k1 bel lt1) (trodAll_cons_mk (Below.trod laidOut (by kernel_rfl) (of_decide_eq_true (by kernel_rfl)) k2 bel lt2) trodAll_mk0))), rfl, bel.frame _, fun h => by cases h⟩

theorem over : Rows.convoyRunsRow.holds Tryz.pinned (OpenSpec.ofChange Rows.convoyRunsSpec) :=
  OpenClaim.holds_of_wide 3 Tryz.f3 rfl rfl rfl rfl rfl rfl rfl ⟨rfl, rfl, rfl, rfl, rfl⟩ rfl rfl rfl rfl rfl (by kernel_rfl) Tryz.func3 (by kernel_rfl)
    (of_decide_eq_true (by kernel_rfl)) (by unfold Func.isWrapper; first | (rw [if_pos (by decide +kernel)]; kernel_rfl) | (rw [if_neg (by decide +kernel)]; exact ⟨rfl, rfl⟩))
    (fun os started H enc _ => lifted os started H enc)

end Go.Proofs.YtdkgjoilcfoclaaGreat.convoyRuns

namespace Go.Proofs.YtdkgjoilcfoclaaGreat
theorem convoyRuns_holds : Rows.ConvoyRunsSaid := convoyRuns.over
end Go.Proofs.YtdkgjoilcfoclaaGreat
