/-
  Proved: for every input, ConvoyMade returns true, and its arguments read afterwards as they read before.
  Conditions: none beyond those of the given row.
-/
import Derived.Test.YtdkgjoilcfoclaaPlain
import Derived.Test.YtdkgjoilcfoclaaRows
import Derived.WalkKit
namespace Go.Abs.Convoy
open Go Go.Abs Go.Proofs
theorem rd2 : Rd Try.prog 2 eInt_i64 wI64 := rd_i64 Try.underlying2
theorem rd3 : Rd Try.prog 3 eInt_i64 wI64 := rd_i64 Try.underlying3
theorem rd23 : Rd Try.prog 23 eGuess (fun x : Guess => wI64 x.R ∧ wI64 x.V) :=
  rd_map (rd_struct Try.underlying23 (wf := _) (rdf_cons (n := 1) rd2 rfl (fun _ => rfl) (rdf_cons (n := 1) rd2 rfl (fun _ => rfl) rdf_nil)) (by intro y; kernel_rfl)) eGuess (fun x : Guess => wI64 x.R ∧ wI64 x.V) (fun y => ⟨y.1, y.2.1⟩) (fun _ => rfl) (fun y h => ⟨h.1, h.2.1⟩)
theorem rd4 : Rd Try.prog 4 eBool (fun _ : Bool => True) := rd_bool Try.underlying4
theorem rd65 : Rd Try.prog 65 eMate (fun x : Mate => wI64 x.ID ∧ wI64 x.S ∧ wI64 x.V ∧ wI64 x.Len ∧ wI64 x.Ahead ∧ (fun x : Guess => wI64 x.R ∧ wI64 x.V) x.Guess_ ∧ (fun _ : Bool => True) x.Trust ∧ wI64 x.Ward ∧ (fun x : Guess => wI64 x.R ∧ wI64 x.V) x.WardGuess ∧ wI64 x.Until) :=
  rd_map (rd_struct Try.underlying65 (wf := _) (rdf_cons (n := 1) rd3 rfl (fun _ => rfl) (rdf_cons (n := 1) rd2 rfl (fun _ => rfl) (rdf_cons (n := 1) rd2 rfl (fun _ => rfl) (rdf_cons (n := 1) rd2 rfl (fun _ => rfl) (rdf_cons (n := 1) rd3 rfl (fun _ => rfl) (rdf_cons (n := 2) rd23 rfl (fun _ => rfl) (rdf_cons (n := 1) rd4 rfl (fun _ => rfl) (rdf_cons (n := 1) rd3 rfl (fun _ => rfl) (rdf_cons (n := 2) rd23 rfl (fun _ => rfl) (rdf_cons (n := 1) rd2 rfl (fun _ => rfl) rdf_nil)))))))))) (by intro y; kernel_rfl)) eMate (fun x : Mate => wI64 x.ID ∧ wI64 x.S ∧ wI64 x.V ∧ wI64 x.Len ∧ wI64 x.Ahead ∧ (fun x : Guess => wI64 x.R ∧ wI64 x.V) x.Guess_ ∧ (fun _ : Bool => True) x.Trust ∧ wI64 x.Ward ∧ (fun x : Guess => wI64 x.R ∧ wI64 x.V) x.WardGuess ∧ wI64 x.Until) (fun y => ⟨y.1, y.2.1, y.2.2.1, y.2.2.2.1, y.2.2.2.2.1, y.2.2.2.2.2.1, y.2.2.2.2.2.2.1, y.2.2.2.2.2.2.2.1, y.2.2.2.2.2.2.2.2.1, y.2.2.2.2.2.2.2.2.2.1⟩) (fun _ => rfl) (fun y h => ⟨h.1, h.2.1, h.2.2.1, h.2.2.2.1, h.2.2.2.2.1, h.2.2.2.2.2.1, h.2.2.2.2.2.2.1, h.2.2.2.2.2.2.2.1, h.2.2.2.2.2.2.2.2.1, h.2.2.2.2.2.2.2.2.2.1⟩)
theorem rd34 : Rd Try.prog 34 eL_Mate (fun xs : (List Mate) => ∀ a ∈ xs, (fun x : Mate => wI64 x.ID ∧ wI64 x.S ∧ wI64 x.V ∧ wI64 x.Len ∧ wI64 x.Ahead ∧ (fun x : Guess => wI64 x.R ∧ wI64 x.V) x.Guess_ ∧ (fun _ : Bool => True) x.Trust ∧ wI64 x.Ward ∧ (fun x : Guess => wI64 x.R ∧ wI64 x.V) x.WardGuess ∧ wI64 x.Until) a) := rd_slice (sz := 12) Try.underlying34 rd65 (fun _ => rfl) (by decide) (by kernel_rfl)
theorem rd36 : Rd Try.prog 36 eGuest (fun x : Guest => wI64 x.ID ∧ wI64 x.S ∧ wI64 x.V ∧ wI64 x.Len ∧ wI64 x.End ∧ wI64 x.Ahead ∧ (fun x : Guess => wI64 x.R ∧ wI64 x.V) x.Guess_ ∧ wI64 x.From ∧ wI64 x.Until) :=
  rd_map (rd_struct Try.underlying36 (wf := _) (rdf_cons (n := 1) rd3 rfl (fun _ => rfl) (rdf_cons (n := 1) rd2 rfl (fun _ => rfl) (rdf_cons (n := 1) rd2 rfl (fun _ => rfl) (rdf_cons (n := 1) rd2 rfl (fun _ => rfl) (rdf_cons (n := 1) rd2 rfl (fun _ => rfl) (rdf_cons (n := 1) rd3 rfl (fun _ => rfl) (rdf_cons (n := 2) rd23 rfl (fun _ => rfl) (rdf_cons (n := 1) rd3 rfl (fun _ => rfl) (rdf_cons (n := 1) rd2 rfl (fun _ => rfl) rdf_nil))))))))) (by intro y; kernel_rfl)) eGuest (fun x : Guest => wI64 x.ID ∧ wI64 x.S ∧ wI64 x.V ∧ wI64 x.Len ∧ wI64 x.End ∧ wI64 x.Ahead ∧ (fun x : Guess => wI64 x.R ∧ wI64 x.V) x.Guess_ ∧ wI64 x.From ∧ wI64 x.Until) (fun y => ⟨y.1, y.2.1, y.2.2.1, y.2.2.2.1, y.2.2.2.2.1, y.2.2.2.2.2.1, y.2.2.2.2.2.2.1, y.2.2.2.2.2.2.2.1, y.2.2.2.2.2.2.2.2.1⟩) (fun _ => rfl) (fun y h => ⟨h.1, h.2.1, h.2.2.1, h.2.2.2.1, h.2.2.2.2.1, h.2.2.2.2.2.1, h.2.2.2.2.2.2.1, h.2.2.2.2.2.2.2.1, h.2.2.2.2.2.2.2.2.1⟩)
theorem rd38 : Rd Try.prog 38 eConvoy (fun x : Convoy => wI64 x.Tick ∧ wI64 x.Gap ∧ (fun xs : (List Mate) => ∀ a ∈ xs, (fun x : Mate => wI64 x.ID ∧ wI64 x.S ∧ wI64 x.V ∧ wI64 x.Len ∧ wI64 x.Ahead ∧ (fun x : Guess => wI64 x.R ∧ wI64 x.V) x.Guess_ ∧ (fun _ : Bool => True) x.Trust ∧ wI64 x.Ward ∧ (fun x : Guess => wI64 x.R ∧ wI64 x.V) x.WardGuess ∧ wI64 x.Until) a) x.Mates ∧ (fun x : Guest => wI64 x.ID ∧ wI64 x.S ∧ wI64 x.V ∧ wI64 x.Len ∧ wI64 x.End ∧ wI64 x.Ahead ∧ (fun x : Guess => wI64 x.R ∧ wI64 x.V) x.Guess_ ∧ wI64 x.From ∧ wI64 x.Until) x.Guest_) :=
  rd_map (rd_struct Try.underlying38 (wf := _) (rdf_cons (n := 1) rd2 rfl (fun _ => rfl) (rdf_cons (n := 1) rd2 rfl (fun _ => rfl) (rdf_cons (n := 1) rd34 rfl (fun _ => rfl) (rdf_cons (n := 10) rd36 rfl (fun _ => rfl) rdf_nil)))) (by intro y; kernel_rfl)) eConvoy (fun x : Convoy => wI64 x.Tick ∧ wI64 x.Gap ∧ (fun xs : (List Mate) => ∀ a ∈ xs, (fun x : Mate => wI64 x.ID ∧ wI64 x.S ∧ wI64 x.V ∧ wI64 x.Len ∧ wI64 x.Ahead ∧ (fun x : Guess => wI64 x.R ∧ wI64 x.V) x.Guess_ ∧ (fun _ : Bool => True) x.Trust ∧ wI64 x.Ward ∧ (fun x : Guess => wI64 x.R ∧ wI64 x.V) x.WardGuess ∧ wI64 x.Until) a) x.Mates ∧ (fun x : Guest => wI64 x.ID ∧ wI64 x.S ∧ wI64 x.V ∧ wI64 x.Len ∧ wI64 x.End ∧ wI64 x.Ahead ∧ (fun x : Guess => wI64 x.R ∧ wI64 x.V) x.Guess_ ∧ wI64 x.From ∧ wI64 x.Until) x.Guest_) (fun y => ⟨y.1, y.2.1, y.2.2.1, y.2.2.2.1⟩) (fun _ => rfl) (fun y h => ⟨h.1, h.2.1, h.2.2.1, h.2.2.2.1⟩)
end Go.Abs.Convoy

namespace Go.Proofs.Ytdkgjoilcfoclaa.convoyMade
open Go.ChangeShapes Go.WideShapes Go.ChangeAt Go.RowKit Go.Abs Go.Abs.Convoy
set_option linter.unusedVariables false

theorem own : ownKnob Try.prog.godebug = none := by kernel_rfl
theorem laidOut : laidOutB Try.prog = true := by kernel_rfl

set_option maxRecDepth 100000 in
theorem lifted (os : Os) (started : os.Started) (H : Type) (enc : TypeId × Value → H) :
    ReturnsInHanded {} Try.checked os 7 .any (Rows.convoyMadeSpec.pre6 enc Try.prog Try.f7 Rows.convoyMadeRow.domain false) (Rows.convoyMadeSpec.post enc Try.prog Try.f7 false true false false) := by
  refine returnsInHanded_of_change (C := Try.checked) own started (by kernel_rfl) Try.func7
    (ChangeSpec.witness6 (enc := enc) (C := Try.checked) false ⟨#[], #[.int .i64 0, .slice none 0 0, .agg #[.int .i64 0, .int .i64 0, .slice none 0 0, .int .i64 0, .int .i64 0, .int .i64 0, .int .i64 0, .int .i64 0, .int .i64 0, .int .i64 0, .int .i64 0, .int .i64 0, .int .i64 0], .agg #[.int .i64 0, .int .i64 0, .int .i64 0, .int .i64 0, .int .i64 0, .int .i64 0, .int .i64 0, .int .i64 0, .int .i64 0, .int .i64 0]], []⟩ 8 (by kernel_rfl) (by kernel_rfl) (by kernel_rfl) (by kernel_rfl)) ?_
  intro W base args ds gs before hval0 hW hcnd _
  have hval : ∀ (j : Nat) t v, Try.f7.params[j]? = some t → args[j]? = some v → Value.okWide Try.prog W .any base t v := hval0
  have hW' := hW
  obtain ⟨p, q, hA0, hV, rfl, hfz, hnd⟩ := hW
  have hA : DataW.TrodAll enc Try.prog W 0 (fun _ => true) true Try.f7.params.toList args.toList ds p := hA0
  rw [Try.params7] at hA hval
  obtain ⟨v0, vs0, d0, ds0, p0, q0, hargs, rfl, rfl, h0, r0⟩ := trodAll_cons hA
  obtain ⟨v1, vs1, d1, ds1, p1, q1, rfl, rfl, rfl, h1, r1⟩ := trodAll_cons r0
  obtain ⟨v2, vs2, d2, ds2, p2, q2, rfl, rfl, rfl, h2, r2⟩ := trodAll_cons r1
  obtain ⟨v3, vs3, d3, ds3, p3, q3, rfl, rfl, rfl, h3, r3⟩ := trodAll_cons r2
  obtain ⟨rfl, rfl, rfl⟩ := trodAll_nil r3
  obtain rfl : args = #[v0, v1, v2, v3] := by cases args; simp_all
  obtain ⟨rfl, rfl⟩ := trodVars_none hV
  have k0 := h0
  have lt0 : ∀ x ∈ p0, x.block < W.heap.size := by obtain ⟨m, hm⟩ := k0; exact DataW.trod_lt m _ _ _ hm
  obtain ⟨a0, w0, e0⟩ := arg_one rd2 (by obtain ⟨_, rfl⟩ := okWide_int Try.underlying2 (hval 0 2 v0 rfl rfl); rfl) h0
  have k1 := h1
  have lt1 : ∀ x ∈ p1, x.block < W.heap.size := by obtain ⟨m, hm⟩ := k1; exact DataW.trod_lt m _ _ _ hm
  obtain ⟨a1, w1, e1⟩ := arg_one rd34 (by obtain ⟨_, _, _, rfl⟩ := okWide_slice Try.underlying34 (hval 1 34 v1 rfl rfl); rfl) h1
  have k2 := h2
  have lt2 : ∀ x ∈ p2, x.block < W.heap.size := by obtain ⟨m, hm⟩ := k2; exact DataW.trod_lt m _ _ _ hm
  obtain ⟨a2, w2, e2⟩ := arg_agg rd38 Try.underlying38 (hval 2 38 v2 rfl rfl) h2
  have k3 := h3
  have lt3 : ∀ x ∈ p3, x.block < W.heap.size := by obtain ⟨m, hm⟩ := k3; exact DataW.trod_lt m _ _ _ hm
  obtain ⟨a3, w3, e3⟩ := arg_agg rd36 Try.underlying36 (hval 3 36 v3 rfl rfl) h3
  clear hA0 hval0
  refine (law_walk (vs := [v0, v1, v2, v3]) (law09_ConvoyMade_ok a0 a1 a2 a3 _ (law09_ConvoyMade_plain a0 a1 a2 a3)) rfl ?_).mono fun e W' ⟨he, bel⟩ => ?_
  · intro i d hi
    match i, hi with
    | 0, hi => cases hi; exact e0
    | 1, hi => cases hi; exact e1
    | 2, hi => cases hi; exact e2
    | 3, hi => cases hi; exact e3
    | i + 4, hi => simp at hi
  · subst he
    exact ⟨_, rfl, _, _, _, [], _, [], hW', trodAll_mk1 (shut_bool Try.underlying4 _), (trodAll_cons_mk (Below.trod laidOut (by kernel_rfl) (of_decide_eq_true (by kernel_rfl)) k0 bel lt0) (trodAll_cons_mk (Below.trod laidOut (by kernel_rfl) (of_decide_eq_true (by kernel_rfl)) k1 bel lt1) (trodAll_cons_mk (Below.trod laidOut (by kernel_rfl) (of_decide_eq_true (by kernel_rfl)) k2 bel lt2) (trodAll_cons_mk (Below.trod laidOut (by kernel_rfl) (of_decide_eq_true (by kernel_rfl)) k3 bel lt3) trodAll_mk0)))), rfl, bel.frame _, fun h => by cases h⟩

theorem over : Rows.convoyMadeRow.holds Try.pinned (OpenSpec.ofChange Rows.convoyMadeSpec) :=
  OpenClaim.holds_of_wide 7 Try.f7 rfl rfl rfl rfl rfl rfl rfl ⟨rfl, rfl, rfl, rfl, rfl⟩ rfl rfl rfl rfl rfl (by kernel_rfl) Try.func7 (by kernel_rfl)
    (of_decide_eq_true (by kernel_rfl)) (by unfold Func.isWrapper; first | (rw [if_pos (by decide +kernel)]; kernel_rfl) | (rw [if_neg (by decide +kernel)]; exact ⟨rfl, rfl⟩))
    (fun os started H enc _ => lifted os started H enc)

end Go.Proofs.Ytdkgjoilcfoclaa.convoyMade

namespace Go.Proofs.Ytdkgjoilcfoclaa
theorem convoyMade_holds : Rows.ConvoyMadeSaid := convoyMade.over
end Go.Proofs.Ytdkgjoilcfoclaa
