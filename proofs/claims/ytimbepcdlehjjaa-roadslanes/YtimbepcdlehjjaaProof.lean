/-
  Proved: for every input, RoadsLanes returns true, and its arguments read afterwards as they read before.
  Conditions: none beyond those of the given row.
-/
import Derived.Test.YtimbepcdlehjjaaPlain
import Derived.Test.YtimbepcdlehjjaaRows
import Derived.WalkKit
namespace Go.Abs.Roads
open Go Go.Abs Go.Proofs
theorem rd2 : Rd Try.prog 2 eInt_i64 wI64 := rd_i64 Try.underlying2
theorem rd3 : Rd Try.prog 3 eInt_i64 wI64 := rd_i64 Try.underlying3
theorem rd111 : Rd Try.prog 111 eSpot (fun x : Spot => wI64 x.X ∧ wI64 x.Y) :=
  rd_map (rd_struct Try.underlying111 (wf := _) (rdf_cons (n := 1) rd2 rfl (fun _ => rfl) (rdf_cons (n := 1) rd2 rfl (fun _ => rfl) rdf_nil)) (by intro y; kernel_rfl)) eSpot (fun x : Spot => wI64 x.X ∧ wI64 x.Y) (fun y => ⟨y.1, y.2.1⟩) (fun _ => rfl) (fun y h => ⟨h.1, h.2.1⟩)
theorem rd35 : Rd Try.prog 35 eL_Spot (fun xs : (List Spot) => ∀ a ∈ xs, (fun x : Spot => wI64 x.X ∧ wI64 x.Y) a) := rd_slice (sz := 2) Try.underlying35 rd111 (fun _ => rfl) (by decide) (by kernel_rfl)
theorem rd37 : Rd Try.prog 37 eCurve (fun x : Curve => (fun xs : (List Spot) => ∀ a ∈ xs, (fun x : Spot => wI64 x.X ∧ wI64 x.Y) a) x.Pts) :=
  rd_map (rd_struct Try.underlying37 (wf := _) (rdf_cons (n := 1) rd35 rfl (fun _ => rfl) rdf_nil) (by intro y; kernel_rfl)) eCurve (fun x : Curve => (fun xs : (List Spot) => ∀ a ∈ xs, (fun x : Spot => wI64 x.X ∧ wI64 x.Y) a) x.Pts) (fun y => ⟨y.1⟩) (fun _ => rfl) (fun y h => h.1)
theorem rd38 : Rd Try.prog 38 eL_Int_i64 (fun xs : (List Int) => ∀ a ∈ xs, wI64 a) := rd_slice (sz := 1) Try.underlying38 rd3 (fun _ => rfl) (by decide) (by kernel_rfl)
theorem rd40 : Rd Try.prog 40 eLane (fun x : Lane => wI64 x.Kind ∧ (fun x : Curve => (fun xs : (List Spot) => ∀ a ∈ xs, (fun x : Spot => wI64 x.X ∧ wI64 x.Y) a) x.Pts) x.Curve_ ∧ wI64 x.Half ∧ wI64 x.Limit ∧ (fun xs : (List Int) => ∀ a ∈ xs, wI64 a) x.Next) :=
  rd_map (rd_struct Try.underlying40 (wf := _) (rdf_cons (n := 1) rd3 rfl (fun _ => rfl) (rdf_cons (n := 1) rd37 rfl (fun _ => rfl) (rdf_cons (n := 1) rd2 rfl (fun _ => rfl) (rdf_cons (n := 1) rd2 rfl (fun _ => rfl) (rdf_cons (n := 1) rd38 rfl (fun _ => rfl) rdf_nil))))) (by intro y; kernel_rfl)) eLane (fun x : Lane => wI64 x.Kind ∧ (fun x : Curve => (fun xs : (List Spot) => ∀ a ∈ xs, (fun x : Spot => wI64 x.X ∧ wI64 x.Y) a) x.Pts) x.Curve_ ∧ wI64 x.Half ∧ wI64 x.Limit ∧ (fun xs : (List Int) => ∀ a ∈ xs, wI64 a) x.Next) (fun y => ⟨y.1, y.2.1, y.2.2.1, y.2.2.2.1, y.2.2.2.2.1⟩) (fun _ => rfl) (fun y h => ⟨h.1, h.2.1, h.2.2.1, h.2.2.2.1, h.2.2.2.2.1⟩)
theorem rd23 : Rd Try.prog 23 eL_Lane (fun xs : (List Lane) => ∀ a ∈ xs, (fun x : Lane => wI64 x.Kind ∧ (fun x : Curve => (fun xs : (List Spot) => ∀ a ∈ xs, (fun x : Spot => wI64 x.X ∧ wI64 x.Y) a) x.Pts) x.Curve_ ∧ wI64 x.Half ∧ wI64 x.Limit ∧ (fun xs : (List Int) => ∀ a ∈ xs, wI64 a) x.Next) a) := rd_slice (sz := 5) Try.underlying23 rd40 (fun _ => rfl) (by decide) (by kernel_rfl)
theorem rd71 : Rd Try.prog 71 ePart (fun x : Part => wI64 x.Lane_ ∧ wI64 x.From ∧ wI64 x.To ∧ wI64 x.Rank) :=
  rd_map (rd_struct Try.underlying71 (wf := _) (rdf_cons (n := 1) rd3 rfl (fun _ => rfl) (rdf_cons (n := 1) rd2 rfl (fun _ => rfl) (rdf_cons (n := 1) rd2 rfl (fun _ => rfl) (rdf_cons (n := 1) rd3 rfl (fun _ => rfl) rdf_nil)))) (by intro y; kernel_rfl)) ePart (fun x : Part => wI64 x.Lane_ ∧ wI64 x.From ∧ wI64 x.To ∧ wI64 x.Rank) (fun y => ⟨y.1, y.2.1, y.2.2.1, y.2.2.2.1⟩) (fun _ => rfl) (fun y h => ⟨h.1, h.2.1, h.2.2.1, h.2.2.2.1⟩)
theorem rd67 : Rd Try.prog 67 eL_Part (fun xs : (List Part) => ∀ a ∈ xs, (fun x : Part => wI64 x.Lane_ ∧ wI64 x.From ∧ wI64 x.To ∧ wI64 x.Rank) a) := rd_slice (sz := 4) Try.underlying67 rd71 (fun _ => rfl) (by decide) (by kernel_rfl)
theorem rd69 : Rd Try.prog 69 eZone (fun x : Zone => (fun xs : (List Part) => ∀ a ∈ xs, (fun x : Part => wI64 x.Lane_ ∧ wI64 x.From ∧ wI64 x.To ∧ wI64 x.Rank) a) x.Parts ∧ wI64 x.Signal_) :=
  rd_map (rd_struct Try.underlying69 (wf := _) (rdf_cons (n := 1) rd67 rfl (fun _ => rfl) (rdf_cons (n := 1) rd3 rfl (fun _ => rfl) rdf_nil)) (by intro y; kernel_rfl)) eZone (fun x : Zone => (fun xs : (List Part) => ∀ a ∈ xs, (fun x : Part => wI64 x.Lane_ ∧ wI64 x.From ∧ wI64 x.To ∧ wI64 x.Rank) a) x.Parts ∧ wI64 x.Signal_) (fun y => ⟨y.1, y.2.1⟩) (fun _ => rfl) (fun y h => ⟨h.1, h.2.1⟩)
theorem rd24 : Rd Try.prog 24 eL_Zone (fun xs : (List Zone) => ∀ a ∈ xs, (fun x : Zone => (fun xs : (List Part) => ∀ a ∈ xs, (fun x : Part => wI64 x.Lane_ ∧ wI64 x.From ∧ wI64 x.To ∧ wI64 x.Rank) a) x.Parts ∧ wI64 x.Signal_) a) := rd_slice (sz := 2) Try.underlying24 rd69 (fun _ => rfl) (by decide) (by kernel_rfl)
theorem rd77 : Rd Try.prog 77 ePhase (fun x : Phase => wI64 x.Ticks ∧ (fun xs : (List Int) => ∀ a ∈ xs, wI64 a) x.Green) :=
  rd_map (rd_struct Try.underlying77 (wf := _) (rdf_cons (n := 1) rd2 rfl (fun _ => rfl) (rdf_cons (n := 1) rd38 rfl (fun _ => rfl) rdf_nil)) (by intro y; kernel_rfl)) ePhase (fun x : Phase => wI64 x.Ticks ∧ (fun xs : (List Int) => ∀ a ∈ xs, wI64 a) x.Green) (fun y => ⟨y.1, y.2.1⟩) (fun _ => rfl) (fun y h => ⟨h.1, h.2.1⟩)
theorem rd73 : Rd Try.prog 73 eL_Phase (fun xs : (List Phase) => ∀ a ∈ xs, (fun x : Phase => wI64 x.Ticks ∧ (fun xs : (List Int) => ∀ a ∈ xs, wI64 a) x.Green) a) := rd_slice (sz := 2) Try.underlying73 rd77 (fun _ => rfl) (by decide) (by kernel_rfl)
theorem rd75 : Rd Try.prog 75 eSignal (fun x : Signal => wI64 x.Offset ∧ (fun xs : (List Phase) => ∀ a ∈ xs, (fun x : Phase => wI64 x.Ticks ∧ (fun xs : (List Int) => ∀ a ∈ xs, wI64 a) x.Green) a) x.Phases) :=
  rd_map (rd_struct Try.underlying75 (wf := _) (rdf_cons (n := 1) rd2 rfl (fun _ => rfl) (rdf_cons (n := 1) rd73 rfl (fun _ => rfl) rdf_nil)) (by intro y; kernel_rfl)) eSignal (fun x : Signal => wI64 x.Offset ∧ (fun xs : (List Phase) => ∀ a ∈ xs, (fun x : Phase => wI64 x.Ticks ∧ (fun xs : (List Int) => ∀ a ∈ xs, wI64 a) x.Green) a) x.Phases) (fun y => ⟨y.1, y.2.1⟩) (fun _ => rfl) (fun y h => ⟨h.1, h.2.1⟩)
theorem rd25 : Rd Try.prog 25 eL_Signal (fun xs : (List Signal) => ∀ a ∈ xs, (fun x : Signal => wI64 x.Offset ∧ (fun xs : (List Phase) => ∀ a ∈ xs, (fun x : Phase => wI64 x.Ticks ∧ (fun xs : (List Int) => ∀ a ∈ xs, wI64 a) x.Green) a) x.Phases) a) := rd_slice (sz := 2) Try.underlying25 rd75 (fun _ => rfl) (by decide) (by kernel_rfl)
theorem rd33 : Rd Try.prog 33 eWork (fun x : Work => wI64 x.Lane_ ∧ wI64 x.From ∧ wI64 x.To ∧ wI64 x.Begin ∧ wI64 x.End ∧ wI64 x.Limit) :=
  rd_map (rd_struct Try.underlying33 (wf := _) (rdf_cons (n := 1) rd3 rfl (fun _ => rfl) (rdf_cons (n := 1) rd2 rfl (fun _ => rfl) (rdf_cons (n := 1) rd2 rfl (fun _ => rfl) (rdf_cons (n := 1) rd2 rfl (fun _ => rfl) (rdf_cons (n := 1) rd2 rfl (fun _ => rfl) (rdf_cons (n := 1) rd2 rfl (fun _ => rfl) rdf_nil)))))) (by intro y; kernel_rfl)) eWork (fun x : Work => wI64 x.Lane_ ∧ wI64 x.From ∧ wI64 x.To ∧ wI64 x.Begin ∧ wI64 x.End ∧ wI64 x.Limit) (fun y => ⟨y.1, y.2.1, y.2.2.1, y.2.2.2.1, y.2.2.2.2.1, y.2.2.2.2.2.1⟩) (fun _ => rfl) (fun y h => ⟨h.1, h.2.1, h.2.2.1, h.2.2.2.1, h.2.2.2.2.1, h.2.2.2.2.2.1⟩)
theorem rd26 : Rd Try.prog 26 eL_Work (fun xs : (List Work) => ∀ a ∈ xs, (fun x : Work => wI64 x.Lane_ ∧ wI64 x.From ∧ wI64 x.To ∧ wI64 x.Begin ∧ wI64 x.End ∧ wI64 x.Limit) a) := rd_slice (sz := 6) Try.underlying26 rd33 (fun _ => rfl) (by decide) (by kernel_rfl)
theorem rd28 : Rd Try.prog 28 eMap (fun x : Map => wI64 x.Version ∧ (fun xs : (List Lane) => ∀ a ∈ xs, (fun x : Lane => wI64 x.Kind ∧ (fun x : Curve => (fun xs : (List Spot) => ∀ a ∈ xs, (fun x : Spot => wI64 x.X ∧ wI64 x.Y) a) x.Pts) x.Curve_ ∧ wI64 x.Half ∧ wI64 x.Limit ∧ (fun xs : (List Int) => ∀ a ∈ xs, wI64 a) x.Next) a) x.Lanes ∧ (fun xs : (List Zone) => ∀ a ∈ xs, (fun x : Zone => (fun xs : (List Part) => ∀ a ∈ xs, (fun x : Part => wI64 x.Lane_ ∧ wI64 x.From ∧ wI64 x.To ∧ wI64 x.Rank) a) x.Parts ∧ wI64 x.Signal_) a) x.Zones ∧ (fun xs : (List Signal) => ∀ a ∈ xs, (fun x : Signal => wI64 x.Offset ∧ (fun xs : (List Phase) => ∀ a ∈ xs, (fun x : Phase => wI64 x.Ticks ∧ (fun xs : (List Int) => ∀ a ∈ xs, wI64 a) x.Green) a) x.Phases) a) x.Signals ∧ (fun xs : (List Work) => ∀ a ∈ xs, (fun x : Work => wI64 x.Lane_ ∧ wI64 x.From ∧ wI64 x.To ∧ wI64 x.Begin ∧ wI64 x.End ∧ wI64 x.Limit) a) x.Works) :=
  rd_map (rd_struct Try.underlying28 (wf := _) (rdf_cons (n := 1) rd2 rfl (fun _ => rfl) (rdf_cons (n := 1) rd23 rfl (fun _ => rfl) (rdf_cons (n := 1) rd24 rfl (fun _ => rfl) (rdf_cons (n := 1) rd25 rfl (fun _ => rfl) (rdf_cons (n := 1) rd26 rfl (fun _ => rfl) rdf_nil))))) (by intro y; kernel_rfl)) eMap (fun x : Map => wI64 x.Version ∧ (fun xs : (List Lane) => ∀ a ∈ xs, (fun x : Lane => wI64 x.Kind ∧ (fun x : Curve => (fun xs : (List Spot) => ∀ a ∈ xs, (fun x : Spot => wI64 x.X ∧ wI64 x.Y) a) x.Pts) x.Curve_ ∧ wI64 x.Half ∧ wI64 x.Limit ∧ (fun xs : (List Int) => ∀ a ∈ xs, wI64 a) x.Next) a) x.Lanes ∧ (fun xs : (List Zone) => ∀ a ∈ xs, (fun x : Zone => (fun xs : (List Part) => ∀ a ∈ xs, (fun x : Part => wI64 x.Lane_ ∧ wI64 x.From ∧ wI64 x.To ∧ wI64 x.Rank) a) x.Parts ∧ wI64 x.Signal_) a) x.Zones ∧ (fun xs : (List Signal) => ∀ a ∈ xs, (fun x : Signal => wI64 x.Offset ∧ (fun xs : (List Phase) => ∀ a ∈ xs, (fun x : Phase => wI64 x.Ticks ∧ (fun xs : (List Int) => ∀ a ∈ xs, wI64 a) x.Green) a) x.Phases) a) x.Signals ∧ (fun xs : (List Work) => ∀ a ∈ xs, (fun x : Work => wI64 x.Lane_ ∧ wI64 x.From ∧ wI64 x.To ∧ wI64 x.Begin ∧ wI64 x.End ∧ wI64 x.Limit) a) x.Works) (fun y => ⟨y.1, y.2.1, y.2.2.1, y.2.2.2.1, y.2.2.2.2.1⟩) (fun _ => rfl) (fun y h => ⟨h.1, h.2.1, h.2.2.1, h.2.2.2.1, h.2.2.2.2.1⟩)
end Go.Abs.Roads

namespace Go.Proofs.Ytimbepcdlehjjaa.roadsLanes
open Go.ChangeShapes Go.WideShapes Go.ChangeAt Go.RowKit Go.Abs Go.Abs.Roads
set_option linter.unusedVariables false

theorem own : ownKnob Try.prog.godebug = none := by kernel_rfl
theorem laidOut : laidOutB Try.prog = true := by kernel_rfl

set_option maxRecDepth 100000 in
theorem lifted (os : Os) (started : os.Started) (H : Type) (enc : TypeId × Value → H) :
    ReturnsInHanded {} Try.checked os 6 .any (Rows.roadsLanesSpec.pre6 enc Try.prog Try.f6 Rows.roadsLanesRow.domain false) (Rows.roadsLanesSpec.post enc Try.prog Try.f6 false true false false) := by
  refine returnsInHanded_of_change (C := Try.checked) own started (by kernel_rfl) Try.func6
    (ChangeSpec.witness6 (enc := enc) (C := Try.checked) false ⟨#[], #[.agg #[.int .i64 0, .slice none 0 0, .slice none 0 0, .slice none 0 0, .slice none 0 0], .int .i64 0, .int .i64 0, .int .i64 0, .int .i64 0], []⟩ 8 (by kernel_rfl) (by kernel_rfl) (by kernel_rfl) (by kernel_rfl)) ?_
  intro W base args ds gs before hval0 hW hcnd _
  have hval : ∀ (j : Nat) t v, Try.f6.params[j]? = some t → args[j]? = some v → Value.okWide Try.prog W .any base t v := hval0
  have hW' := hW
  obtain ⟨p, q, hA0, hV, rfl, hfz, hnd⟩ := hW
  have hA : DataW.TrodAll enc Try.prog W 0 (fun _ => true) true Try.f6.params.toList args.toList ds p := hA0
  rw [Try.params6] at hA hval
  obtain ⟨v0, vs0, d0, ds0, p0, q0, hargs, rfl, rfl, h0, r0⟩ := trodAll_cons hA
  obtain ⟨v1, vs1, d1, ds1, p1, q1, rfl, rfl, rfl, h1, r1⟩ := trodAll_cons r0
  obtain ⟨v2, vs2, d2, ds2, p2, q2, rfl, rfl, rfl, h2, r2⟩ := trodAll_cons r1
  obtain ⟨v3, vs3, d3, ds3, p3, q3, rfl, rfl, rfl, h3, r3⟩ := trodAll_cons r2
  obtain ⟨v4, vs4, d4, ds4, p4, q4, rfl, rfl, rfl, h4, r4⟩ := trodAll_cons r3
  obtain ⟨rfl, rfl, rfl⟩ := trodAll_nil r4
  obtain rfl : args = #[v0, v1, v2, v3, v4] := by cases args; simp_all
  obtain ⟨rfl, rfl⟩ := trodVars_none hV
  have k0 := h0
  have lt0 : ∀ x ∈ p0, x.block < W.heap.size := by obtain ⟨m, hm⟩ := k0; exact DataW.trod_lt m _ _ _ hm
  obtain ⟨a0, w0, e0⟩ := arg_agg rd28 Try.underlying28 (hval 0 28 v0 rfl rfl) h0
  have k1 := h1
  have lt1 : ∀ x ∈ p1, x.block < W.heap.size := by obtain ⟨m, hm⟩ := k1; exact DataW.trod_lt m _ _ _ hm
  obtain ⟨a1, w1, e1⟩ := arg_one rd3 (by obtain ⟨_, rfl⟩ := okWide_int Try.underlying3 (hval 1 3 v1 rfl rfl); rfl) h1
  have k2 := h2
  have lt2 : ∀ x ∈ p2, x.block < W.heap.size := by obtain ⟨m, hm⟩ := k2; exact DataW.trod_lt m _ _ _ hm
  obtain ⟨a2, w2, e2⟩ := arg_one rd3 (by obtain ⟨_, rfl⟩ := okWide_int Try.underlying3 (hval 2 3 v2 rfl rfl); rfl) h2
  have k3 := h3
  have lt3 : ∀ x ∈ p3, x.block < W.heap.size := by obtain ⟨m, hm⟩ := k3; exact DataW.trod_lt m _ _ _ hm
  obtain ⟨a3, w3, e3⟩ := arg_one rd3 (by obtain ⟨_, rfl⟩ := okWide_int Try.underlying3 (hval 3 3 v3 rfl rfl); rfl) h3
  have k4 := h4
  have lt4 : ∀ x ∈ p4, x.block < W.heap.size := by obtain ⟨m, hm⟩ := k4; exact DataW.trod_lt m _ _ _ hm
  obtain ⟨a4, w4, e4⟩ := arg_one rd3 (by obtain ⟨_, rfl⟩ := okWide_int Try.underlying3 (hval 4 3 v4 rfl rfl); rfl) h4
  clear hA0 hval0
  refine (law_walk (vs := [v0, v1, v2, v3, v4]) (law03_RoadsLanes_ok a0 a1 a2 a3 a4 _ (law03_RoadsLanes_plain a0 a1 a2 a3 a4)) rfl ?_).mono fun e W' ⟨he, bel⟩ => ?_
  · intro i d hi
    match i, hi with
    | 0, hi => cases hi; exact e0
    | 1, hi => cases hi; exact e1
    | 2, hi => cases hi; exact e2
    | 3, hi => cases hi; exact e3
    | 4, hi => cases hi; exact e4
    | i + 5, hi => simp at hi
  · subst he
    exact ⟨_, rfl, _, _, _, [], _, [], hW', trodAll_mk1 (shut_bool Try.underlying4 _), (trodAll_cons_mk (Below.trod laidOut (by kernel_rfl) (of_decide_eq_true (by kernel_rfl)) k0 bel lt0) (trodAll_cons_mk (Below.trod laidOut (by kernel_rfl) (of_decide_eq_true (by kernel_rfl)) k1 bel lt1) (trodAll_cons_mk (Below.trod laidOut (by kernel_rfl) (of_decide_eq_true (by kernel_rfl)) k2 bel lt2) (trodAll_cons_mk (Below.trod laidOut (by kernel_rfl) (of_decide_eq_true (by kernel_rfl)) k3 bel lt3) (trodAll_cons_mk (Below.trod laidOut (by kernel_rfl) (of_decide_eq_true (by kernel_rfl)) k4 bel lt4) trodAll_mk0))))), rfl, bel.frame _, fun h => by cases h⟩

theorem over : Rows.roadsLanesRow.holds Try.pinned (OpenSpec.ofChange Rows.roadsLanesSpec) :=
  OpenClaim.holds_of_wide 6 Try.f6 rfl rfl rfl rfl rfl rfl rfl ⟨rfl, rfl, rfl, rfl, rfl⟩ rfl rfl rfl rfl rfl (by kernel_rfl) Try.func6 (by kernel_rfl)
    (of_decide_eq_true (by kernel_rfl)) (by unfold Func.isWrapper; first | (rw [if_pos (by decide +kernel)]; kernel_rfl) | (rw [if_neg (by decide +kernel)]; exact ⟨rfl, rfl⟩))
    (fun os started H enc _ => lifted os started H enc)

end Go.Proofs.Ytimbepcdlehjjaa.roadsLanes

namespace Go.Proofs.Ytimbepcdlehjjaa
theorem roadsLanes_holds : Rows.RoadsLanesSaid := roadsLanes.over
end Go.Proofs.Ytimbepcdlehjjaa
