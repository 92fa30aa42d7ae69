/-
  Proved: for every input, RoadsChecks returns true, and its arguments read afterwards as they read before.
  Conditions: none beyond those of the given row.
-/
import Derived.Test.YtimbepcdlehjjaaGreatPlainB
import Derived.Test.YtimbepcdlehjjaaGreatRows
import Derived.WalkKit
namespace Go.Abs.Roadsz
open Go Go.Abs Go.Proofs
theorem rd2 : Rd Tryz.prog 2 eInt_i64 wI64 := rd_i64 Tryz.underlying2
theorem rd3 : Rd Tryz.prog 3 eInt_i64 wI64 := rd_i64 Tryz.underlying3
theorem rd148 : Rd Tryz.prog 148 eSpot (fun x : Spot => wI64 x.X ∧ wI64 x.Y) :=
  rd_map (rd_struct Tryz.underlying148 (wf := _) (rdf_cons (n := 1) rd2 rfl (fun _ => rfl) (rdf_cons (n := 1) rd2 rfl (fun _ => rfl) rdf_nil)) (by intro y; kernel_rfl)) eSpot (fun x : Spot => wI64 x.X ∧ wI64 x.Y) (fun y => ⟨y.1, y.2.1⟩) (fun _ => rfl) (fun y h => ⟨h.1, h.2.1⟩)
theorem rd37 : Rd Tryz.prog 37 eL_Spot (fun xs : (List Spot) => ∀ a ∈ xs, (fun x : Spot => wI64 x.X ∧ wI64 x.Y) a) := rd_slice (sz := 2) Tryz.underlying37 rd148 (fun _ => rfl) (by decide) (by kernel_rfl)
theorem rd39 : Rd Tryz.prog 39 eCurve (fun x : Curve => (fun xs : (List Spot) => ∀ a ∈ xs, (fun x : Spot => wI64 x.X ∧ wI64 x.Y) a) x.Pts) :=
  rd_map (rd_struct Tryz.underlying39 (wf := _) (rdf_cons (n := 1) rd37 rfl (fun _ => rfl) rdf_nil) (by intro y; kernel_rfl)) eCurve (fun x : Curve => (fun xs : (List Spot) => ∀ a ∈ xs, (fun x : Spot => wI64 x.X ∧ wI64 x.Y) a) x.Pts) (fun y => ⟨y.1⟩) (fun _ => rfl) (fun y h => h.1)
theorem rd40 : Rd Tryz.prog 40 eL_Int_i64 (fun xs : (List Int) => ∀ a ∈ xs, wI64 a) := rd_slice (sz := 1) Tryz.underlying40 rd3 (fun _ => rfl) (by decide) (by kernel_rfl)
theorem rd42 : Rd Tryz.prog 42 eLane (fun x : Lane => wI64 x.Kind ∧ (fun x : Curve => (fun xs : (List Spot) => ∀ a ∈ xs, (fun x : Spot => wI64 x.X ∧ wI64 x.Y) a) x.Pts) x.Curve_ ∧ wI64 x.Half ∧ wI64 x.Limit ∧ (fun xs : (List Int) => ∀ a ∈ xs, wI64 a) x.Next) :=
  rd_map (rd_struct Tryz.underlying42 (wf := _) (rdf_cons (n := 1) rd3 rfl (fun _ => rfl) (rdf_cons (n := 1) rd39 rfl (fun _ => rfl) (rdf_cons (n := 1) rd2 rfl (fun _ => rfl) (rdf_cons (n := 1) rd2 rfl (fun _ => rfl) (rdf_cons (n := 1) rd40 rfl (fun _ => rfl) rdf_nil))))) (by intro y; kernel_rfl)) eLane (fun x : Lane => wI64 x.Kind ∧ (fun x : Curve => (fun xs : (List Spot) => ∀ a ∈ xs, (fun x : Spot => wI64 x.X ∧ wI64 x.Y) a) x.Pts) x.Curve_ ∧ wI64 x.Half ∧ wI64 x.Limit ∧ (fun xs : (List Int) => ∀ a ∈ xs, wI64 a) x.Next) (fun y => ⟨y.1, y.2.1, y.2.2.1, y.2.2.2.1, y.2.2.2.2.1⟩) (fun _ => rfl) (fun y h => ⟨h.1, h.2.1, h.2.2.1, h.2.2.2.1, h.2.2.2.2.1⟩)
theorem rd22 : Rd Tryz.prog 22 eL_Lane (fun xs : (List Lane) => ∀ a ∈ xs, (fun x : Lane => wI64 x.Kind ∧ (fun x : Curve => (fun xs : (List Spot) => ∀ a ∈ xs, (fun x : Spot => wI64 x.X ∧ wI64 x.Y) a) x.Pts) x.Curve_ ∧ wI64 x.Half ∧ wI64 x.Limit ∧ (fun xs : (List Int) => ∀ a ∈ xs, wI64 a) x.Next) a) := rd_slice (sz := 5) Tryz.underlying22 rd42 (fun _ => rfl) (by decide) (by kernel_rfl)
theorem rd91 : Rd Tryz.prog 91 ePart (fun x : Part => wI64 x.Lane_ ∧ wI64 x.From ∧ wI64 x.To ∧ wI64 x.Rank) :=
  rd_map (rd_struct Tryz.underlying91 (wf := _) (rdf_cons (n := 1) rd3 rfl (fun _ => rfl) (rdf_cons (n := 1) rd2 rfl (fun _ => rfl) (rdf_cons (n := 1) rd2 rfl (fun _ => rfl) (rdf_cons (n := 1) rd3 rfl (fun _ => rfl) rdf_nil)))) (by intro y; kernel_rfl)) ePart (fun x : Part => wI64 x.Lane_ ∧ wI64 x.From ∧ wI64 x.To ∧ wI64 x.Rank) (fun y => ⟨y.1, y.2.1, y.2.2.1, y.2.2.2.1⟩) (fun _ => rfl) (fun y h => ⟨h.1, h.2.1, h.2.2.1, h.2.2.2.1⟩)
theorem rd43 : Rd Tryz.prog 43 eL_Part (fun xs : (List Part) => ∀ a ∈ xs, (fun x : Part => wI64 x.Lane_ ∧ wI64 x.From ∧ wI64 x.To ∧ wI64 x.Rank) a) := rd_slice (sz := 4) Tryz.underlying43 rd91 (fun _ => rfl) (by decide) (by kernel_rfl)
theorem rd45 : Rd Tryz.prog 45 eZone (fun x : Zone => (fun xs : (List Part) => ∀ a ∈ xs, (fun x : Part => wI64 x.Lane_ ∧ wI64 x.From ∧ wI64 x.To ∧ wI64 x.Rank) a) x.Parts ∧ wI64 x.Signal_) :=
  rd_map (rd_struct Tryz.underlying45 (wf := _) (rdf_cons (n := 1) rd43 rfl (fun _ => rfl) (rdf_cons (n := 1) rd3 rfl (fun _ => rfl) rdf_nil)) (by intro y; kernel_rfl)) eZone (fun x : Zone => (fun xs : (List Part) => ∀ a ∈ xs, (fun x : Part => wI64 x.Lane_ ∧ wI64 x.From ∧ wI64 x.To ∧ wI64 x.Rank) a) x.Parts ∧ wI64 x.Signal_) (fun y => ⟨y.1, y.2.1⟩) (fun _ => rfl) (fun y h => ⟨h.1, h.2.1⟩)
theorem rd23 : Rd Tryz.prog 23 eL_Zone (fun xs : (List Zone) => ∀ a ∈ xs, (fun x : Zone => (fun xs : (List Part) => ∀ a ∈ xs, (fun x : Part => wI64 x.Lane_ ∧ wI64 x.From ∧ wI64 x.To ∧ wI64 x.Rank) a) x.Parts ∧ wI64 x.Signal_) a) := rd_slice (sz := 2) Tryz.underlying23 rd45 (fun _ => rfl) (by decide) (by kernel_rfl)
theorem rd97 : Rd Tryz.prog 97 ePhase (fun x : Phase => wI64 x.Ticks ∧ (fun xs : (List Int) => ∀ a ∈ xs, wI64 a) x.Green) :=
  rd_map (rd_struct Tryz.underlying97 (wf := _) (rdf_cons (n := 1) rd2 rfl (fun _ => rfl) (rdf_cons (n := 1) rd40 rfl (fun _ => rfl) rdf_nil)) (by intro y; kernel_rfl)) ePhase (fun x : Phase => wI64 x.Ticks ∧ (fun xs : (List Int) => ∀ a ∈ xs, wI64 a) x.Green) (fun y => ⟨y.1, y.2.1⟩) (fun _ => rfl) (fun y h => ⟨h.1, h.2.1⟩)
theorem rd46 : Rd Tryz.prog 46 eL_Phase (fun xs : (List Phase) => ∀ a ∈ xs, (fun x : Phase => wI64 x.Ticks ∧ (fun xs : (List Int) => ∀ a ∈ xs, wI64 a) x.Green) a) := rd_slice (sz := 2) Tryz.underlying46 rd97 (fun _ => rfl) (by decide) (by kernel_rfl)
theorem rd48 : Rd Tryz.prog 48 eSignal (fun x : Signal => wI64 x.Offset ∧ (fun xs : (List Phase) => ∀ a ∈ xs, (fun x : Phase => wI64 x.Ticks ∧ (fun xs : (List Int) => ∀ a ∈ xs, wI64 a) x.Green) a) x.Phases) :=
  rd_map (rd_struct Tryz.underlying48 (wf := _) (rdf_cons (n := 1) rd2 rfl (fun _ => rfl) (rdf_cons (n := 1) rd46 rfl (fun _ => rfl) rdf_nil)) (by intro y; kernel_rfl)) eSignal (fun x : Signal => wI64 x.Offset ∧ (fun xs : (List Phase) => ∀ a ∈ xs, (fun x : Phase => wI64 x.Ticks ∧ (fun xs : (List Int) => ∀ a ∈ xs, wI64 a) x.Green) a) x.Phases) (fun y => ⟨y.1, y.2.1⟩) (fun _ => rfl) (fun y h => ⟨h.1, h.2.1⟩)
theorem rd24 : Rd Tryz.prog 24 eL_Signal (fun xs : (List Signal) => ∀ a ∈ xs, (fun x : Signal => wI64 x.Offset ∧ (fun xs : (List Phase) => ∀ a ∈ xs, (fun x : Phase => wI64 x.Ticks ∧ (fun xs : (List Int) => ∀ a ∈ xs, wI64 a) x.Green) a) x.Phases) a) := rd_slice (sz := 2) Tryz.underlying24 rd48 (fun _ => rfl) (by decide) (by kernel_rfl)
theorem rd50 : Rd Tryz.prog 50 eWork (fun x : Work => wI64 x.Lane_ ∧ wI64 x.From ∧ wI64 x.To ∧ wI64 x.Begin ∧ wI64 x.End ∧ wI64 x.Limit) :=
  rd_map (rd_struct Tryz.underlying50 (wf := _) (rdf_cons (n := 1) rd3 rfl (fun _ => rfl) (rdf_cons (n := 1) rd2 rfl (fun _ => rfl) (rdf_cons (n := 1) rd2 rfl (fun _ => rfl) (rdf_cons (n := 1) rd2 rfl (fun _ => rfl) (rdf_cons (n := 1) rd2 rfl (fun _ => rfl) (rdf_cons (n := 1) rd2 rfl (fun _ => rfl) rdf_nil)))))) (by intro y; kernel_rfl)) eWork (fun x : Work => wI64 x.Lane_ ∧ wI64 x.From ∧ wI64 x.To ∧ wI64 x.Begin ∧ wI64 x.End ∧ wI64 x.Limit) (fun y => ⟨y.1, y.2.1, y.2.2.1, y.2.2.2.1, y.2.2.2.2.1, y.2.2.2.2.2.1⟩) (fun _ => rfl) (fun y h => ⟨h.1, h.2.1, h.2.2.1, h.2.2.2.1, h.2.2.2.2.1, h.2.2.2.2.2.1⟩)
theorem rd25 : Rd Tryz.prog 25 eL_Work (fun xs : (List Work) => ∀ a ∈ xs, (fun x : Work => wI64 x.Lane_ ∧ wI64 x.From ∧ wI64 x.To ∧ wI64 x.Begin ∧ wI64 x.End ∧ wI64 x.Limit) a) := rd_slice (sz := 6) Tryz.underlying25 rd50 (fun _ => rfl) (by decide) (by kernel_rfl)
theorem rd27 : Rd Tryz.prog 27 eMap (fun x : Map => wI64 x.Version ∧ (fun xs : (List Lane) => ∀ a ∈ xs, (fun x : Lane => wI64 x.Kind ∧ (fun x : Curve => (fun xs : (List Spot) => ∀ a ∈ xs, (fun x : Spot => wI64 x.X ∧ wI64 x.Y) a) x.Pts) x.Curve_ ∧ wI64 x.Half ∧ wI64 x.Limit ∧ (fun xs : (List Int) => ∀ a ∈ xs, wI64 a) x.Next) a) x.Lanes ∧ (fun xs : (List Zone) => ∀ a ∈ xs, (fun x : Zone => (fun xs : (List Part) => ∀ a ∈ xs, (fun x : Part => wI64 x.Lane_ ∧ wI64 x.From ∧ wI64 x.To ∧ wI64 x.Rank) a) x.Parts ∧ wI64 x.Signal_) a) x.Zones ∧ (fun xs : (List Signal) => ∀ a ∈ xs, (fun x : Signal => wI64 x.Offset ∧ (fun xs : (List Phase) => ∀ a ∈ xs, (fun x : Phase => wI64 x.Ticks ∧ (fun xs : (List Int) => ∀ a ∈ xs, wI64 a) x.Green) a) x.Phases) a) x.Signals ∧ (fun xs : (List Work) => ∀ a ∈ xs, (fun x : Work => wI64 x.Lane_ ∧ wI64 x.From ∧ wI64 x.To ∧ wI64 x.Begin ∧ wI64 x.End ∧ wI64 x.Limit) a) x.Works) :=
  rd_map (rd_struct Tryz.underlying27 (wf := _) (rdf_cons (n := 1) rd2 rfl (fun _ => rfl) (rdf_cons (n := 1) rd22 rfl (fun _ => rfl) (rdf_cons (n := 1) rd23 rfl (fun _ => rfl) (rdf_cons (n := 1) rd24 rfl (fun _ => rfl) (rdf_cons (n := 1) rd25 rfl (fun _ => rfl) rdf_nil))))) (by intro y; kernel_rfl)) eMap (fun x : Map => wI64 x.Version ∧ (fun xs : (List Lane) => ∀ a ∈ xs, (fun x : Lane => wI64 x.Kind ∧ (fun x : Curve => (fun xs : (List Spot) => ∀ a ∈ xs, (fun x : Spot => wI64 x.X ∧ wI64 x.Y) a) x.Pts) x.Curve_ ∧ wI64 x.Half ∧ wI64 x.Limit ∧ (fun xs : (List Int) => ∀ a ∈ xs, wI64 a) x.Next) a) x.Lanes ∧ (fun xs : (List Zone) => ∀ a ∈ xs, (fun x : Zone => (fun xs : (List Part) => ∀ a ∈ xs, (fun x : Part => wI64 x.Lane_ ∧ wI64 x.From ∧ wI64 x.To ∧ wI64 x.Rank) a) x.Parts ∧ wI64 x.Signal_) a) x.Zones ∧ (fun xs : (List Signal) => ∀ a ∈ xs, (fun x : Signal => wI64 x.Offset ∧ (fun xs : (List Phase) => ∀ a ∈ xs, (fun x : Phase => wI64 x.Ticks ∧ (fun xs : (List Int) => ∀ a ∈ xs, wI64 a) x.Green) a) x.Phases) a) x.Signals ∧ (fun xs : (List Work) => ∀ a ∈ xs, (fun x : Work => wI64 x.Lane_ ∧ wI64 x.From ∧ wI64 x.To ∧ wI64 x.Begin ∧ wI64 x.End ∧ wI64 x.Limit) a) x.Works) (fun y => ⟨y.1, y.2.1, y.2.2.1, y.2.2.2.1, y.2.2.2.2.1⟩) (fun _ => rfl) (fun y h => ⟨h.1, h.2.1, h.2.2.1, h.2.2.2.1, h.2.2.2.2.1⟩)
end Go.Abs.Roadsz

namespace Go.Proofs.YtimbepcdlehjjaaGreat.roadsChecks
open Go.ChangeShapes Go.WideShapes Go.ChangeAt Go.RowKit Go.Abs Go.Abs.Roadsz
set_option linter.unusedVariables false

theorem own : ownKnob Tryz.prog.godebug = none := by kernel_rfl
theorem laidOut : laidOutB Tryz.prog = true := by kernel_rfl

set_option maxRecDepth 100000 in
theorem lifted (os : Os) (started : os.Started) (H : Type) (enc : TypeId × Value → H) :
    ReturnsInHanded {} Tryz.checked os 3 .any (Rows.roadsChecksSpec.pre6 enc Tryz.prog Tryz.f3 Rows.roadsChecksRow.domain false) (Rows.roadsChecksSpec.post enc Tryz.prog Tryz.f3 false true false false) := by
  refine returnsInHanded_of_change (C := Tryz.checked) own started (by kernel_rfl) Tryz.func3
    (ChangeSpec.witness6 (enc := enc) (C := Tryz.checked) false ⟨#[], #[.agg #[.int .i64 0, .slice none 0 0, .slice none 0 0, .slice none 0 0, .slice none 0 0]], []⟩ 8 (by kernel_rfl) (by kernel_rfl) (by kernel_rfl) (by kernel_rfl)) ?_
  intro W base args ds gs before hval0 hW hcnd _
  have hval : ∀ (j : Nat) t v, Tryz.f3.params[j]? = some t → args[j]? = some v → Value.okWide Tryz.prog W .any base t v := hval0
  have hW' := hW
  obtain ⟨p, q, hA0, hV, rfl, hfz, hnd⟩ := hW
  have hA : DataW.TrodAll enc Tryz.prog W 0 (fun _ => true) true Tryz.f3.params.toList args.toList ds p := hA0
  rw [Tryz.params3] at hA hval
  obtain ⟨v0, vs0, d0, ds0, p0, q0, hargs, rfl, rfl, h0, r0⟩ := trodAll_cons hA
  obtain ⟨rfl, rfl, rfl⟩ := trodAll_nil r0
  obtain rfl : args = #[v0] := by cases args; simp_all
  obtain ⟨rfl, rfl⟩ := trodVars_none hV
  have k0 := h0
  have lt0 : ∀ x ∈ p0, x.block < W.heap.size := by obtain ⟨m, hm⟩ := k0; exact DataW.trod_lt m _ _ _ hm
  obtain ⟨a0, w0, e0⟩ := arg_agg rd27 Tryz.underlying27 (hval 0 27 v0 rfl rfl) h0
  clear hA0 hval0
  refine (law_walk (vs := [v0]) (law03_RoadsChecks_ok a0 _ (law03_RoadsChecks_plain a0)) rfl ?_).mono fun e W' ⟨he, bel⟩ => ?_
  · intro i d hi
    match i, hi with
    | 0, hi => cases hi; exact e0
    | i + 1, hi => simp at hi
  · subst he
    exact ⟨_, rfl, _, _, _, [], _, [], hW', trodAll_mk1 (shut_bool Tryz.underlying4 _), (trodAll_cons_mk (Below.trod laidOut (by kernel_rfl) (of_decide_eq_true (by kernel_rfl)) k0 bel lt0) trodAll_mk0), rfl, bel.frame _, fun h => by cases h⟩

theorem j0 : (mapsRowed Tryz.prog) = true := by kernel_rfl
theorem j1 : (Rows.roadsChecksRow.inPlace == Tryz.prog.inPlace 3) = true := by kernel_rfl
theorem j2 : (Rows.roadsChecksRow.unfollowed == Tryz.prog.unfollowed 3) = true := by kernel_rfl
theorem j3 : (Rows.roadsChecksRow.recurses == Tryz.prog.recurses 3) = true := by kernel_rfl
theorem j4 : (Rows.roadsChecksRow.named == Tryz.prog.varsNamed 3) = true := by kernel_rfl
theorem j5 : (Rows.roadsChecksRow.plainKeys == Tryz.prog.plainKeys) = true := by kernel_rfl
theorem j6 : (Tryz.prog.stopsHeard) = true := by kernel_rfl
theorem j7 : (Tryz.prog.mayEnter) = true := by kernel_rfl
theorem j8 : (Rows.roadsChecksRow.lifted == Tryz.prog.liftsFinal) = true := by kernel_rfl
theorem j9 : (Tryz.prog.make == some Rows.roadsChecksRow.make) = true := by kernel_rfl
theorem j10 : (Rows.roadsChecksRow.loops == (Tryz.f3.params.toList ++ Rows.roadsChecksSpec.plain.varTypes Tryz.prog).any (Tryz.prog.loopsFrom ·)) = true := by kernel_rfl
theorem closed : joinedFacts Tryz.prog 3 Tryz.f3 Rows.roadsChecksSpec Rows.roadsChecksRow = true := by
  unfold joinedFacts
  simp only [Bool.and_eq_true]
  repeat' apply And.intro
  all_goals first | with_reducible exact laidOut | with_reducible exact j0 | with_reducible exact j1 | with_reducible exact j2 | with_reducible exact j3 | with_reducible exact j4 | with_reducible exact j5 | with_reducible exact j6 | with_reducible exact j7 | with_reducible exact j8 | with_reducible exact j9 | with_reducible exact j10 | kernel_rfl

theorem over : Rows.roadsChecksRow.holds Tryz.pinned (OpenSpec.ofChange Rows.roadsChecksSpec) :=
  OpenClaim.holds_of_wide 3 Tryz.f3 rfl rfl rfl rfl rfl rfl rfl ⟨rfl, rfl, rfl, rfl, rfl⟩ rfl rfl rfl rfl rfl (by kernel_rfl) Tryz.func3 closed
    (of_decide_eq_true (by kernel_rfl)) (by unfold Func.isWrapper; first | (rw [if_pos (by decide +kernel)]; kernel_rfl) | (rw [if_neg (by decide +kernel)]; exact ⟨rfl, rfl⟩))
    (fun os started H enc _ => lifted os started H enc)

end Go.Proofs.YtimbepcdlehjjaaGreat.roadsChecks

namespace Go.Proofs.YtimbepcdlehjjaaGreat
theorem roadsChecks_holds : Rows.RoadsChecksSaid := roadsChecks.over
end Go.Proofs.YtimbepcdlehjjaaGreat
