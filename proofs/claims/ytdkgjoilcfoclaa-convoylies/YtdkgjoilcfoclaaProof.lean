/-
  Proved: for every input, ConvoyLies returns true, and its arguments read afterwards as they read before.
  Conditions: none beyond those of the given row.
-/
import Derived.Test.YtdkgjoilcfoclaaPlain
import Derived.Test.YtdkgjoilcfoclaaRows
import Derived.WalkKit
namespace Go.Abs.Convoy
open Go Go.Abs Go.Proofs
theorem rd3 : Rd Try.prog 3 eInt_i64 wI64 := rd_i64 Try.underlying3
theorem rd40 : Rd Try.prog 40 eL_Int_i64 (fun xs : (List Int) => ∀ a ∈ xs, wI64 a) := rd_slice (sz := 1) Try.underlying40 rd3 (fun _ => rfl) (by decide) (by kernel_rfl)
theorem rd2 : Rd Try.prog 2 eInt_i64 wI64 := rd_i64 Try.underlying2
theorem rd68 : Rd Try.prog 68 eNote (fun x : Note => wI64 x.Kind ∧ wI64 x.From ∧ wI64 x.To ∧ wI64 x.Stamp ∧ wI64 x.R ∧ wI64 x.V ∧ wI64 x.Until) :=
  rd_map (rd_struct Try.underlying68 (wf := _) (rdf_cons (n := 1) rd3 rfl (fun _ => rfl) (rdf_cons (n := 1) rd3 rfl (fun _ => rfl) (rdf_cons (n := 1) rd3 rfl (fun _ => rfl) (rdf_cons (n := 1) rd2 rfl (fun _ => rfl) (rdf_cons (n := 1) rd2 rfl (fun _ => rfl) (rdf_cons (n := 1) rd2 rfl (fun _ => rfl) (rdf_cons (n := 1) rd2 rfl (fun _ => rfl) rdf_nil))))))) (by intro y; kernel_rfl)) eNote (fun x : Note => wI64 x.Kind ∧ wI64 x.From ∧ wI64 x.To ∧ wI64 x.Stamp ∧ wI64 x.R ∧ wI64 x.V ∧ wI64 x.Until) (fun y => ⟨y.1, y.2.1, y.2.2.1, y.2.2.2.1, y.2.2.2.2.1, y.2.2.2.2.2.1, y.2.2.2.2.2.2.1⟩) (fun _ => rfl) (fun y h => ⟨h.1, h.2.1, h.2.2.1, h.2.2.2.1, h.2.2.2.2.1, h.2.2.2.2.2.1, h.2.2.2.2.2.2.1⟩)
theorem rd57 : Rd Try.prog 57 eL_Note (fun xs : (List Note) => ∀ a ∈ xs, (fun x : Note => wI64 x.Kind ∧ wI64 x.From ∧ wI64 x.To ∧ wI64 x.Stamp ∧ wI64 x.R ∧ wI64 x.V ∧ wI64 x.Until) a) := rd_slice (sz := 7) Try.underlying57 rd68 (fun _ => rfl) (by decide) (by kernel_rfl)
end Go.Abs.Convoy

namespace Go.Proofs.Ytdkgjoilcfoclaa.convoyLies
open Go.ChangeShapes Go.WideShapes Go.ChangeAt Go.RowKit Go.Abs Go.Abs.Convoy
set_option linter.unusedVariables false

theorem own : ownKnob Try.prog.godebug = none := by kernel_rfl
theorem laidOut : laidOutB Try.prog = true := by kernel_rfl

set_option maxRecDepth 100000 in
theorem lifted (os : Os) (started : os.Started) (H : Type) (enc : TypeId × Value → H) :
    ReturnsInHanded {} Try.checked os 8 .any (Rows.convoyLiesSpec.pre6 enc Try.prog Try.f8 Rows.convoyLiesRow.domain false) (Rows.convoyLiesSpec.post enc Try.prog Try.f8 false true false false) := by
  refine returnsInHanded_of_change (C := Try.checked) own started (by kernel_rfl) Try.func8
    (ChangeSpec.witness6 (enc := enc) (C := Try.checked) false ⟨#[], #[.slice none 0 0, .int .i64 0, .slice none 0 0], []⟩ 8 (by kernel_rfl) (by kernel_rfl) (by kernel_rfl) (by kernel_rfl)) ?_
  intro W base args ds gs before hval0 hW hcnd _
  have hval : ∀ (j : Nat) t v, Try.f8.params[j]? = some t → args[j]? = some v → Value.okWide Try.prog W .any base t v := hval0
  have hW' := hW
  obtain ⟨p, q, hA0, hV, rfl, hfz, hnd⟩ := hW
  have hA : DataW.TrodAll enc Try.prog W 0 (fun _ => true) true Try.f8.params.toList args.toList ds p := hA0
  rw [Try.params8] at hA hval
  obtain ⟨v0, vs0, d0, ds0, p0, q0, hargs, rfl, rfl, h0, r0⟩ := trodAll_cons hA
  obtain ⟨v1, vs1, d1, ds1, p1, q1, rfl, rfl, rfl, h1, r1⟩ := trodAll_cons r0
  obtain ⟨v2, vs2, d2, ds2, p2, q2, rfl, rfl, rfl, h2, r2⟩ := trodAll_cons r1
  obtain ⟨rfl, rfl, rfl⟩ := trodAll_nil r2
  obtain rfl : args = #[v0, v1, v2] := by cases args; simp_all
  obtain ⟨rfl, rfl⟩ := trodVars_none hV
  have k0 := h0
  have lt0 : ∀ x ∈ p0, x.block < W.heap.size := by obtain ⟨m, hm⟩ := k0; exact DataW.trod_lt m _ _ _ hm
  obtain ⟨a0, w0, e0⟩ := arg_one rd40 (by obtain ⟨_, _, _, rfl⟩ := okWide_slice Try.underlying40 (hval 0 40 v0 rfl rfl); rfl) h0
  have k1 := h1
  have lt1 : ∀ x ∈ p1, x.block < W.heap.size := by obtain ⟨m, hm⟩ := k1; exact DataW.trod_lt m _ _ _ hm
  obtain ⟨a1, w1, e1⟩ := arg_one rd3 (by obtain ⟨_, rfl⟩ := okWide_int Try.underlying3 (hval 1 3 v1 rfl rfl); rfl) h1
  have k2 := h2
  have lt2 : ∀ x ∈ p2, x.block < W.heap.size := by obtain ⟨m, hm⟩ := k2; exact DataW.trod_lt m _ _ _ hm
  obtain ⟨a2, w2, e2⟩ := arg_one rd57 (by obtain ⟨_, _, _, rfl⟩ := okWide_slice Try.underlying57 (hval 2 57 v2 rfl rfl); rfl) h2
  clear hA0 hval0
  refine (law_walk (vs := [v0, v1, v2]) (law09_ConvoyLies_ok a0 a1 a2 _ (law09_ConvoyLies_plain a0 a1 a2)) rfl ?_).mono fun e W' ⟨he, bel⟩ => ?_
  · intro i d hi
    match i, hi with
    | 0, hi => cases hi; exact e0
    | 1, hi => cases hi; exact e1
    | 2, hi => cases hi; exact e2
    | i + 3, hi => simp at hi
  · subst he
    exact ⟨_, rfl, _, _, _, [], _, [], hW', trodAll_mk1 (shut_bool Try.underlying4 _), (trodAll_cons_mk (Below.trod laidOut (by kernel_rfl) (of_decide_eq_true (by kernel_rfl)) k0 bel lt0) (trodAll_cons_mk (Below.trod laidOut (by kernel_rfl) (of_decide_eq_true (by kernel_rfl)) k1 bel lt1) (trodAll_cons_mk (Below.trod laidOut (by kernel_rfl) (of_decide_eq_true (by kernel_rfl)) k2 bel lt2) trodAll_mk0))), rfl, bel.frame _, fun h => by cases h⟩

theorem over : Rows.convoyLiesRow.holds Try.pinned (OpenSpec.ofChange Rows.convoyLiesSpec) :=
  OpenClaim.holds_of_wide 8 Try.f8 rfl rfl rfl rfl rfl rfl rfl ⟨rfl, rfl, rfl, rfl, rfl⟩ rfl rfl rfl rfl rfl (by kernel_rfl) Try.func8 (by kernel_rfl)
    (of_decide_eq_true (by kernel_rfl)) (by unfold Func.isWrapper; first | (rw [if_pos (by decide +kernel)]; kernel_rfl) | (rw [if_neg (by decide +kernel)]; exact ⟨rfl, rfl⟩))
    (fun os started H enc _ => lifted os started H enc)

end Go.Proofs.Ytdkgjoilcfoclaa.convoyLies

namespace Go.Proofs.Ytdkgjoilcfoclaa
theorem convoyLies_holds : Rows.ConvoyLiesSaid := convoyLies.over
end Go.Proofs.Ytdkgjoilcfoclaa
