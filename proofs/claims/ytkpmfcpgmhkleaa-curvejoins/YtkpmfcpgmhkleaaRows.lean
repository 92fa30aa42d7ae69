/-
  No cell of these rows narrows 'for every input' (looked for: loops, veiled, ifaces, maps, wideKeys, modest, calm, conditions, laid).
  DERIVED. THE GIVEN ROWS OF THIS SEAT. 14 by the template 'for every input the law returns true; each argument reads behind the call as it read before'; 0 by the template 'total and deterministic' (their statements: YtkpmfcpgmhkleaaTotals.lean).
  GIVEN WITH THE SEED: the statements are not yours to turn. If you find one false, say at which input.
  Laid BY PROGRAM, IN A SANDBOX (cutbox-rows.mjs): the forced cells as the released guide's own fill.sh prints them over the translation c7c29037dca4b49b… (all of the seat's roots in one cut). By AI agents, Wed Nov 11 2026. No macro, syntax, notation, axiom, sorry.
-/
import Derived.Test.YtkpmfcpgmhkleaaChecked
import GoSem.Claim
import GoSem.ClaimJoined
import GoSem.ClaimMapViews
import Derived.JoinedTies
import Derived.KernelRfl
namespace Go.Proofs.Ytkpmfcpgmhkleaa
/- THE CELL 'sum', in the pinned program and in every row, IS THE sha256 OF THE DUMP (.gsa) THAT YtkpmfcpgmhkleaaProg.lean LOADS. Nothing in Lean hashes anything: it is a label: what it is worth is what the hold of that sum in a sandbox is worth. -/
noncomputable def Try.pinned : Pinned := { name := "ytkpmfcpgmhkleaa", sum := "c7c29037dca4b49b6fc25d6a94b6c324ceae8efb445ffe6544a2661b170b4f5f", checked := Try.checked }
namespace Rows
def none {H : Type} : Left H := { results := [], args := [] }

/-- 'kerbstonelaw01.CurveChecks': WHATEVER THE INPUT: true; the input reads as it did. -/
def curveChecksSpec : ChangeSpec := { name := "curveChecks", fn := fun _ => fun
  | [d] => { results := [.lit (.bool true)], args := [d] }
  | _ => none }
def curveChecksRow : OpenClaim := { program := "ytkpmfcpgmhkleaa", sum := "c7c29037dca4b49b6fc25d6a94b6c324ceae8efb445ffe6544a2661b170b4f5f", func := "kerbstone/kerbstonelaw01.CurveChecks", spec := "curveChecks", unfollowed := true, recurses := true, apart := false }
def CurveChecksSaid : Prop := curveChecksRow.holds Try.pinned (OpenSpec.ofChange curveChecksSpec)

/-- ITS FALSE NEIGHBOUR: 'it returns false'. Refute it at one input. -/
def curveChecksWrong : ChangeSpec := { name := "curveChecks", fn := fun _ => fun
  | [d] => { results := [.lit (.bool false)], args := [d] }
  | _ => none }
def CurveChecksWrongFalsely : Prop := curveChecksRow.holds Try.pinned (OpenSpec.ofChange curveChecksWrong)

/-- 'kerbstonelaw01.CurvePlaces': WHATEVER THE INPUT: true; the input reads as it did. -/
def curvePlacesSpec : ChangeSpec := { name := "curvePlaces", fn := fun _ => fun
  | [d1, d2, d3] => { results := [.lit (.bool true)], args := [d1, d2, d3] }
  | _ => none }
def curvePlacesRow : OpenClaim := { program := "ytkpmfcpgmhkleaa", sum := "c7c29037dca4b49b6fc25d6a94b6c324ceae8efb445ffe6544a2661b170b4f5f", func := "kerbstone/kerbstonelaw01.CurvePlaces", spec := "curvePlaces", unfollowed := true, recurses := true, apart := false }
def CurvePlacesSaid : Prop := curvePlacesRow.holds Try.pinned (OpenSpec.ofChange curvePlacesSpec)

/-- ITS FALSE NEIGHBOUR: 'it returns false'. Refute it at one input. -/
def curvePlacesWrong : ChangeSpec := { name := "curvePlaces", fn := fun _ => fun
  | [d1, d2, d3] => { results := [.lit (.bool false)], args := [d1, d2, d3] }
  | _ => none }
def CurvePlacesWrongFalsely : Prop := curvePlacesRow.holds Try.pinned (OpenSpec.ofChange curvePlacesWrong)

/-- 'kerbstonelaw01.CurveLengths': WHATEVER THE INPUT: true; the input reads as it did. -/
def curveLengthsSpec : ChangeSpec := { name := "curveLengths", fn := fun _ => fun
  | [d] => { results := [.lit (.bool true)], args := [d] }
  | _ => none }
def curveLengthsRow : OpenClaim := { program := "ytkpmfcpgmhkleaa", sum := "c7c29037dca4b49b6fc25d6a94b6c324ceae8efb445ffe6544a2661b170b4f5f", func := "kerbstone/kerbstonelaw01.CurveLengths", spec := "curveLengths", unfollowed := true, recurses := true, apart := false }
def CurveLengthsSaid : Prop := curveLengthsRow.holds Try.pinned (OpenSpec.ofChange curveLengthsSpec)

/-- ITS FALSE NEIGHBOUR: 'it returns false'. Refute it at one input. -/
def curveLengthsWrong : ChangeSpec := { name := "curveLengths", fn := fun _ => fun
  | [d] => { results := [.lit (.bool false)], args := [d] }
  | _ => none }
def CurveLengthsWrongFalsely : Prop := curveLengthsRow.holds Try.pinned (OpenSpec.ofChange curveLengthsWrong)

/-- 'kerbstonelaw01.CurveSteps': WHATEVER THE INPUT: true; the input reads as it did. -/
def curveStepsSpec : ChangeSpec := { name := "curveSteps", fn := fun _ => fun
  | [d1, d2, d3] => { results := [.lit (.bool true)], args := [d1, d2, d3] }
  | _ => none }
def curveStepsRow : OpenClaim := { program := "ytkpmfcpgmhkleaa", sum := "c7c29037dca4b49b6fc25d6a94b6c324ceae8efb445ffe6544a2661b170b4f5f", func := "kerbstone/kerbstonelaw01.CurveSteps", spec := "curveSteps", unfollowed := true, recurses := true, apart := false }
def CurveStepsSaid : Prop := curveStepsRow.holds Try.pinned (OpenSpec.ofChange curveStepsSpec)

/-- ITS FALSE NEIGHBOUR: 'it returns false'. Refute it at one input. -/
def curveStepsWrong : ChangeSpec := { name := "curveSteps", fn := fun _ => fun
  | [d1, d2, d3] => { results := [.lit (.bool false)], args := [d1, d2, d3] }
  | _ => none }
def CurveStepsWrongFalsely : Prop := curveStepsRow.holds Try.pinned (OpenSpec.ofChange curveStepsWrong)

/-- 'kerbstonelaw01.CurveTogether': WHATEVER THE INPUT: true; the input reads as it did. -/
def curveTogetherSpec : ChangeSpec := { name := "curveTogether", fn := fun _ => fun
  | [d1, d2, d3] => { results := [.lit (.bool true)], args := [d1, d2, d3] }
  | _ => none }
def curveTogetherRow : OpenClaim := { program := "ytkpmfcpgmhkleaa", sum := "c7c29037dca4b49b6fc25d6a94b6c324ceae8efb445ffe6544a2661b170b4f5f", func := "kerbstone/kerbstonelaw01.CurveTogether", spec := "curveTogether", unfollowed := true, recurses := true, apart := false }
def CurveTogetherSaid : Prop := curveTogetherRow.holds Try.pinned (OpenSpec.ofChange curveTogetherSpec)

/-- ITS FALSE NEIGHBOUR: 'it returns false'. Refute it at one input. -/
def curveTogetherWrong : ChangeSpec := { name := "curveTogether", fn := fun _ => fun
  | [d1, d2, d3] => { results := [.lit (.bool false)], args := [d1, d2, d3] }
  | _ => none }
def CurveTogetherWrongFalsely : Prop := curveTogetherRow.holds Try.pinned (OpenSpec.ofChange curveTogetherWrong)

/-- 'kerbstonelaw01.CurveFeet': WHATEVER THE INPUT: true; the input reads as it did. -/
def curveFeetSpec : ChangeSpec := { name := "curveFeet", fn := fun _ => fun
  | [d1, d2, d3, d4] => { results := [.lit (.bool true)], args := [d1, d2, d3, d4] }
  | _ => none }
def curveFeetRow : OpenClaim := { program := "ytkpmfcpgmhkleaa", sum := "c7c29037dca4b49b6fc25d6a94b6c324ceae8efb445ffe6544a2661b170b4f5f", func := "kerbstone/kerbstonelaw01.CurveFeet", spec := "curveFeet", unfollowed := true, recurses := true, apart := false }
def CurveFeetSaid : Prop := curveFeetRow.holds Try.pinned (OpenSpec.ofChange curveFeetSpec)

/-- ITS FALSE NEIGHBOUR: 'it returns false'. Refute it at one input. -/
def curveFeetWrong : ChangeSpec := { name := "curveFeet", fn := fun _ => fun
  | [d1, d2, d3, d4] => { results := [.lit (.bool false)], args := [d1, d2, d3, d4] }
  | _ => none }
def CurveFeetWrongFalsely : Prop := curveFeetRow.holds Try.pinned (OpenSpec.ofChange curveFeetWrong)

/-- 'kerbstonelaw01.CurveJoins': WHATEVER THE INPUT: true; the input reads as it did. -/
def curveJoinsSpec : ChangeSpec := { name := "curveJoins", fn := fun _ => fun
  | [d1, d2, d3, d4] => { results := [.lit (.bool true)], args := [d1, d2, d3, d4] }
  | _ => none }
def curveJoinsRow : OpenClaim := { program := "ytkpmfcpgmhkleaa", sum := "c7c29037dca4b49b6fc25d6a94b6c324ceae8efb445ffe6544a2661b170b4f5f", func := "kerbstone/kerbstonelaw01.CurveJoins", spec := "curveJoins", unfollowed := true, recurses := true, apart := false }
def CurveJoinsSaid : Prop := curveJoinsRow.holds Try.pinned (OpenSpec.ofChange curveJoinsSpec)

/-- ITS FALSE NEIGHBOUR: 'it returns false'. Refute it at one input. -/
def curveJoinsWrong : ChangeSpec := { name := "curveJoins", fn := fun _ => fun
  | [d1, d2, d3, d4] => { results := [.lit (.bool false)], args := [d1, d2, d3, d4] }
  | _ => none }
def CurveJoinsWrongFalsely : Prop := curveJoinsRow.holds Try.pinned (OpenSpec.ofChange curveJoinsWrong)

/-- 'kerbstonelaw01.CurveLooks': WHATEVER THE INPUT: true; the input reads as it did. -/
def curveLooksSpec : ChangeSpec := { name := "curveLooks", fn := fun _ => fun
  | [d1, d2, d3, d4, d5] => { results := [.lit (.bool true)], args := [d1, d2, d3, d4, d5] }
  | _ => none }
def curveLooksRow : OpenClaim := { program := "ytkpmfcpgmhkleaa", sum := "c7c29037dca4b49b6fc25d6a94b6c324ceae8efb445ffe6544a2661b170b4f5f", func := "kerbstone/kerbstonelaw01.CurveLooks", spec := "curveLooks", unfollowed := true, recurses := true, apart := false }
def CurveLooksSaid : Prop := curveLooksRow.holds Try.pinned (OpenSpec.ofChange curveLooksSpec)

/-- ITS FALSE NEIGHBOUR: 'it returns false'. Refute it at one input. -/
def curveLooksWrong : ChangeSpec := { name := "curveLooks", fn := fun _ => fun
  | [d1, d2, d3, d4, d5] => { results := [.lit (.bool false)], args := [d1, d2, d3, d4, d5] }
  | _ => none }
def CurveLooksWrongFalsely : Prop := curveLooksRow.holds Try.pinned (OpenSpec.ofChange curveLooksWrong)

/-- 'kerbstonelaw01.CurveSides': WHATEVER THE INPUT: true; the input reads as it did. -/
def curveSidesSpec : ChangeSpec := { name := "curveSides", fn := fun _ => fun
  | [d1, d2, d3, d4, d5] => { results := [.lit (.bool true)], args := [d1, d2, d3, d4, d5] }
  | _ => none }
def curveSidesRow : OpenClaim := { program := "ytkpmfcpgmhkleaa", sum := "c7c29037dca4b49b6fc25d6a94b6c324ceae8efb445ffe6544a2661b170b4f5f", func := "kerbstone/kerbstonelaw01.CurveSides", spec := "curveSides", unfollowed := true, recurses := true, apart := false }
def CurveSidesSaid : Prop := curveSidesRow.holds Try.pinned (OpenSpec.ofChange curveSidesSpec)

/-- ITS FALSE NEIGHBOUR: 'it returns false'. Refute it at one input. -/
def curveSidesWrong : ChangeSpec := { name := "curveSides", fn := fun _ => fun
  | [d1, d2, d3, d4, d5] => { results := [.lit (.bool false)], args := [d1, d2, d3, d4, d5] }
  | _ => none }
def CurveSidesWrongFalsely : Prop := curveSidesRow.holds Try.pinned (OpenSpec.ofChange curveSidesWrong)

/-- 'kerbstonelaw01.CurveCorridors': WHATEVER THE INPUT: true; the input reads as it did. -/
def curveCorridorsSpec : ChangeSpec := { name := "curveCorridors", fn := fun _ => fun
  | [d1, d2, d3, d4, d5, d6] => { results := [.lit (.bool true)], args := [d1, d2, d3, d4, d5, d6] }
  | _ => none }
def curveCorridorsRow : OpenClaim := { program := "ytkpmfcpgmhkleaa", sum := "c7c29037dca4b49b6fc25d6a94b6c324ceae8efb445ffe6544a2661b170b4f5f", func := "kerbstone/kerbstonelaw01.CurveCorridors", spec := "curveCorridors", unfollowed := true, recurses := true, apart := false }
def CurveCorridorsSaid : Prop := curveCorridorsRow.holds Try.pinned (OpenSpec.ofChange curveCorridorsSpec)

/-- ITS FALSE NEIGHBOUR: 'it returns false'. Refute it at one input. -/
def curveCorridorsWrong : ChangeSpec := { name := "curveCorridors", fn := fun _ => fun
  | [d1, d2, d3, d4, d5, d6] => { results := [.lit (.bool false)], args := [d1, d2, d3, d4, d5, d6] }
  | _ => none }
def CurveCorridorsWrongFalsely : Prop := curveCorridorsRow.holds Try.pinned (OpenSpec.ofChange curveCorridorsWrong)

/-- 'kerbstonelaw01.CurveCrosses': WHATEVER THE INPUT: true; the input reads as it did. -/
def curveCrossesSpec : ChangeSpec := { name := "curveCrosses", fn := fun _ => fun
  | [d1, d2, d3, d4, d5] => { results := [.lit (.bool true)], args := [d1, d2, d3, d4, d5] }
  | _ => none }
def curveCrossesRow : OpenClaim := { program := "ytkpmfcpgmhkleaa", sum := "c7c29037dca4b49b6fc25d6a94b6c324ceae8efb445ffe6544a2661b170b4f5f", func := "kerbstone/kerbstonelaw01.CurveCrosses", spec := "curveCrosses", unfollowed := true, recurses := true, apart := false }
def CurveCrossesSaid : Prop := curveCrossesRow.holds Try.pinned (OpenSpec.ofChange curveCrossesSpec)

/-- ITS FALSE NEIGHBOUR: 'it returns false'. Refute it at one input. -/
def curveCrossesWrong : ChangeSpec := { name := "curveCrosses", fn := fun _ => fun
  | [d1, d2, d3, d4, d5] => { results := [.lit (.bool false)], args := [d1, d2, d3, d4, d5] }
  | _ => none }
def CurveCrossesWrongFalsely : Prop := curveCrossesRow.holds Try.pinned (OpenSpec.ofChange curveCrossesWrong)

/-- 'kerbstonelaw01.CurveInside': WHATEVER THE INPUT: true; the input reads as it did. -/
def curveInsideSpec : ChangeSpec := { name := "curveInside", fn := fun _ => fun
  | [d1, d2, d3, d4, d5, d6] => { results := [.lit (.bool true)], args := [d1, d2, d3, d4, d5, d6] }
  | _ => none }
def curveInsideRow : OpenClaim := { program := "ytkpmfcpgmhkleaa", sum := "c7c29037dca4b49b6fc25d6a94b6c324ceae8efb445ffe6544a2661b170b4f5f", func := "kerbstone/kerbstonelaw01.CurveInside", spec := "curveInside", unfollowed := true, recurses := true, apart := false }
def CurveInsideSaid : Prop := curveInsideRow.holds Try.pinned (OpenSpec.ofChange curveInsideSpec)

/-- ITS FALSE NEIGHBOUR: 'it returns false'. Refute it at one input. -/
def curveInsideWrong : ChangeSpec := { name := "curveInside", fn := fun _ => fun
  | [d1, d2, d3, d4, d5, d6] => { results := [.lit (.bool false)], args := [d1, d2, d3, d4, d5, d6] }
  | _ => none }
def CurveInsideWrongFalsely : Prop := curveInsideRow.holds Try.pinned (OpenSpec.ofChange curveInsideWrong)

/-- 'kerbstonelaw01.CurveMoved': WHATEVER THE INPUT: true; the input reads as it did. -/
def curveMovedSpec : ChangeSpec := { name := "curveMoved", fn := fun _ => fun
  | [d1, d2, d3, d4, d5, d6, d7] => { results := [.lit (.bool true)], args := [d1, d2, d3, d4, d5, d6, d7] }
  | _ => none }
def curveMovedRow : OpenClaim := { program := "ytkpmfcpgmhkleaa", sum := "c7c29037dca4b49b6fc25d6a94b6c324ceae8efb445ffe6544a2661b170b4f5f", func := "kerbstone/kerbstonelaw01.CurveMoved", spec := "curveMoved", unfollowed := true, recurses := true, apart := false }
def CurveMovedSaid : Prop := curveMovedRow.holds Try.pinned (OpenSpec.ofChange curveMovedSpec)

/-- ITS FALSE NEIGHBOUR: 'it returns false'. Refute it at one input. -/
def curveMovedWrong : ChangeSpec := { name := "curveMoved", fn := fun _ => fun
  | [d1, d2, d3, d4, d5, d6, d7] => { results := [.lit (.bool false)], args := [d1, d2, d3, d4, d5, d6, d7] }
  | _ => none }
def CurveMovedWrongFalsely : Prop := curveMovedRow.holds Try.pinned (OpenSpec.ofChange curveMovedWrong)

/-- 'kerbstonelaw01.CurveKnown': WHATEVER THE INPUT: true; the input reads as it did. -/
def curveKnownSpec : ChangeSpec := { name := "curveKnown", fn := fun _ => fun
  | [] => { results := [.lit (.bool true)], args := [] }
  | _ => none }
def curveKnownRow : OpenClaim := { program := "ytkpmfcpgmhkleaa", sum := "c7c29037dca4b49b6fc25d6a94b6c324ceae8efb445ffe6544a2661b170b4f5f", func := "kerbstone/kerbstonelaw01.CurveKnown", spec := "curveKnown", unfollowed := true, recurses := true, apart := false }
def CurveKnownSaid : Prop := curveKnownRow.holds Try.pinned (OpenSpec.ofChange curveKnownSpec)

/-- ITS FALSE NEIGHBOUR: 'it returns false'. Refute it at one input. -/
def curveKnownWrong : ChangeSpec := { name := "curveKnown", fn := fun _ => fun
  | [] => { results := [.lit (.bool false)], args := [] }
  | _ => none }
def CurveKnownWrongFalsely : Prop := curveKnownRow.holds Try.pinned (OpenSpec.ofChange curveKnownWrong)

/- THE SECOND FORM. 'bulk': how many values and letters a reading holds, each counted each time it is reached (what is shared counts as often as it is met; a slice's spare places count too). A statement '..UptoSaid' is the law's where the arguments, and the package variables that the reading takes, are together of bulk at most 1048576: NARROWER than '..Said'. Prove '..Said' where nothing that the law and all that it calls make is longer than what came in: it says more and counts as full. Else prove '..UptoSaid'. A law counts once. -/
mutual
def uptoBulk {H : Type} : DataW H → Nat
  | .lit (.string bytes) => bytes.length + 1
  | .lit _ => 1
  | .nil => 1
  | .ptr d => uptoBulk d + 1
  | .slice elems spare => uptoBulkAll elems + uptoBulkAll spare + 1
  | .agg parts => uptoBulkAll parts + 1
  | .iface _ d => uptoBulk d + 1
  | .map entries => uptoBulkEntries entries + 1
  | .held _ => 1
def uptoBulkAll {H : Type} : List (DataW H) → Nat
  | [] => 0
  | d :: r => uptoBulk d + uptoBulkAll r
def uptoBulkEntries {H : Type} : List (Lit × DataW H) → Nat
  | [] => 0
  | x :: r => uptoBulkEntry x + uptoBulkEntries r
def uptoBulkEntry {H : Type} : Lit × DataW H → Nat
  | (.string bytes, d) => bytes.length + uptoBulk d + 1
  | (_, d) => uptoBulk d + 1
 end
def uptoSmall : (H : Type) → List (DataW H) → Bool := fun _ ds => decide (uptoBulkAll ds ≤ 1048576)
def OpenSpec.upto (s : _root_.Go.ChangeSpec) : _root_.Go.OpenSpec := { _root_.Go.OpenSpec.ofChange s with cond := some uptoSmall }

/-- 'kerbstonelaw01.CurveChecks', WHERE WHAT IT READS IS OF BULK AT MOST 1048576: true; the input reads as it did. -/
def curveChecksUptoRow : OpenClaim := { program := "ytkpmfcpgmhkleaa", sum := "c7c29037dca4b49b6fc25d6a94b6c324ceae8efb445ffe6544a2661b170b4f5f", func := "kerbstone/kerbstonelaw01.CurveChecks", spec := "curveChecks", unfollowed := true, recurses := true, apart := false, narrowed := true }
def CurveChecksUptoSaid : Prop := curveChecksUptoRow.holds Try.pinned (OpenSpec.upto curveChecksSpec)

/-- 'kerbstonelaw01.CurvePlaces', WHERE WHAT IT READS IS OF BULK AT MOST 1048576: true; the input reads as it did. -/
def curvePlacesUptoRow : OpenClaim := { program := "ytkpmfcpgmhkleaa", sum := "c7c29037dca4b49b6fc25d6a94b6c324ceae8efb445ffe6544a2661b170b4f5f", func := "kerbstone/kerbstonelaw01.CurvePlaces", spec := "curvePlaces", unfollowed := true, recurses := true, apart := false, narrowed := true }
def CurvePlacesUptoSaid : Prop := curvePlacesUptoRow.holds Try.pinned (OpenSpec.upto curvePlacesSpec)

/-- 'kerbstonelaw01.CurveLengths', WHERE WHAT IT READS IS OF BULK AT MOST 1048576: true; the input reads as it did. -/
def curveLengthsUptoRow : OpenClaim := { program := "ytkpmfcpgmhkleaa", sum := "c7c29037dca4b49b6fc25d6a94b6c324ceae8efb445ffe6544a2661b170b4f5f", func := "kerbstone/kerbstonelaw01.CurveLengths", spec := "curveLengths", unfollowed := true, recurses := true, apart := false, narrowed := true }
def CurveLengthsUptoSaid : Prop := curveLengthsUptoRow.holds Try.pinned (OpenSpec.upto curveLengthsSpec)

/-- 'kerbstonelaw01.CurveSteps', WHERE WHAT IT READS IS OF BULK AT MOST 1048576: true; the input reads as it did. -/
def curveStepsUptoRow : OpenClaim := { program := "ytkpmfcpgmhkleaa", sum := "c7c29037dca4b49b6fc25d6a94b6c324ceae8efb445ffe6544a2661b170b4f5f", func := "kerbstone/kerbstonelaw01.CurveSteps", spec := "curveSteps", unfollowed := true, recurses := true, apart := false, narrowed := true }
def CurveStepsUptoSaid : Prop := curveStepsUptoRow.holds Try.pinned (OpenSpec.upto curveStepsSpec)

/-- 'kerbstonelaw01.CurveTogether', WHERE WHAT IT READS IS OF BULK AT MOST 1048576: true; the input reads as it did. -/
def curveTogetherUptoRow : OpenClaim := { program := "ytkpmfcpgmhkleaa", sum := "c7c29037dca4b49b6fc25d6a94b6c324ceae8efb445ffe6544a2661b170b4f5f", func := "kerbstone/kerbstonelaw01.CurveTogether", spec := "curveTogether", unfollowed := true, recurses := true, apart := false, narrowed := true }
def CurveTogetherUptoSaid : Prop := curveTogetherUptoRow.holds Try.pinned (OpenSpec.upto curveTogetherSpec)

/-- 'kerbstonelaw01.CurveFeet', WHERE WHAT IT READS IS OF BULK AT MOST 1048576: true; the input reads as it did. -/
def curveFeetUptoRow : OpenClaim := { program := "ytkpmfcpgmhkleaa", sum := "c7c29037dca4b49b6fc25d6a94b6c324ceae8efb445ffe6544a2661b170b4f5f", func := "kerbstone/kerbstonelaw01.CurveFeet", spec := "curveFeet", unfollowed := true, recurses := true, apart := false, narrowed := true }
def CurveFeetUptoSaid : Prop := curveFeetUptoRow.holds Try.pinned (OpenSpec.upto curveFeetSpec)

/-- 'kerbstonelaw01.CurveJoins', WHERE WHAT IT READS IS OF BULK AT MOST 1048576: true; the input reads as it did. -/
def curveJoinsUptoRow : OpenClaim := { program := "ytkpmfcpgmhkleaa", sum := "c7c29037dca4b49b6fc25d6a94b6c324ceae8efb445ffe6544a2661b170b4f5f", func := "kerbstone/kerbstonelaw01.CurveJoins", spec := "curveJoins", unfollowed := true, recurses := true, apart := false, narrowed := true }
def CurveJoinsUptoSaid : Prop := curveJoinsUptoRow.holds Try.pinned (OpenSpec.upto curveJoinsSpec)

/-- 'kerbstonelaw01.CurveLooks', WHERE WHAT IT READS IS OF BULK AT MOST 1048576: true; the input reads as it did. -/
def curveLooksUptoRow : OpenClaim := { program := "ytkpmfcpgmhkleaa", sum := "c7c29037dca4b49b6fc25d6a94b6c324ceae8efb445ffe6544a2661b170b4f5f", func := "kerbstone/kerbstonelaw01.CurveLooks", spec := "curveLooks", unfollowed := true, recurses := true, apart := false, narrowed := true }
def CurveLooksUptoSaid : Prop := curveLooksUptoRow.holds Try.pinned (OpenSpec.upto curveLooksSpec)

/-- 'kerbstonelaw01.CurveSides', WHERE WHAT IT READS IS OF BULK AT MOST 1048576: true; the input reads as it did. -/
def curveSidesUptoRow : OpenClaim := { program := "ytkpmfcpgmhkleaa", sum := "c7c29037dca4b49b6fc25d6a94b6c324ceae8efb445ffe6544a2661b170b4f5f", func := "kerbstone/kerbstonelaw01.CurveSides", spec := "curveSides", unfollowed := true, recurses := true, apart := false, narrowed := true }
def CurveSidesUptoSaid : Prop := curveSidesUptoRow.holds Try.pinned (OpenSpec.upto curveSidesSpec)

/-- 'kerbstonelaw01.CurveCorridors', WHERE WHAT IT READS IS OF BULK AT MOST 1048576: true; the input reads as it did. -/
def curveCorridorsUptoRow : OpenClaim := { program := "ytkpmfcpgmhkleaa", sum := "c7c29037dca4b49b6fc25d6a94b6c324ceae8efb445ffe6544a2661b170b4f5f", func := "kerbstone/kerbstonelaw01.CurveCorridors", spec := "curveCorridors", unfollowed := true, recurses := true, apart := false, narrowed := true }
def CurveCorridorsUptoSaid : Prop := curveCorridorsUptoRow.holds Try.pinned (OpenSpec.upto curveCorridorsSpec)

/-- 'kerbstonelaw01.CurveCrosses', WHERE WHAT IT READS IS OF BULK AT MOST 1048576: true; the input reads as it did. -/
def curveCrossesUptoRow : OpenClaim := { program := "ytkpmfcpgmhkleaa", sum := "c7c29037dca4b49b6fc25d6a94b6c324ceae8efb445ffe6544a2661b170b4f5f", func := "kerbstone/kerbstonelaw01.CurveCrosses", spec := "curveCrosses", unfollowed := true, recurses := true, apart := false, narrowed := true }
def CurveCrossesUptoSaid : Prop := curveCrossesUptoRow.holds Try.pinned (OpenSpec.upto curveCrossesSpec)

/-- 'kerbstonelaw01.CurveInside', WHERE WHAT IT READS IS OF BULK AT MOST 1048576: true; the input reads as it did. -/
def curveInsideUptoRow : OpenClaim := { program := "ytkpmfcpgmhkleaa", sum := "c7c29037dca4b49b6fc25d6a94b6c324ceae8efb445ffe6544a2661b170b4f5f", func := "kerbstone/kerbstonelaw01.CurveInside", spec := "curveInside", unfollowed := true, recurses := true, apart := false, narrowed := true }
def CurveInsideUptoSaid : Prop := curveInsideUptoRow.holds Try.pinned (OpenSpec.upto curveInsideSpec)

/-- 'kerbstonelaw01.CurveMoved', WHERE WHAT IT READS IS OF BULK AT MOST 1048576: true; the input reads as it did. -/
def curveMovedUptoRow : OpenClaim := { program := "ytkpmfcpgmhkleaa", sum := "c7c29037dca4b49b6fc25d6a94b6c324ceae8efb445ffe6544a2661b170b4f5f", func := "kerbstone/kerbstonelaw01.CurveMoved", spec := "curveMoved", unfollowed := true, recurses := true, apart := false, narrowed := true }
def CurveMovedUptoSaid : Prop := curveMovedUptoRow.holds Try.pinned (OpenSpec.upto curveMovedSpec)

/-- 'kerbstonelaw01.CurveKnown', WHERE WHAT IT READS IS OF BULK AT MOST 1048576: true; the input reads as it did. -/
def curveKnownUptoRow : OpenClaim := { program := "ytkpmfcpgmhkleaa", sum := "c7c29037dca4b49b6fc25d6a94b6c324ceae8efb445ffe6544a2661b170b4f5f", func := "kerbstone/kerbstonelaw01.CurveKnown", spec := "curveKnown", unfollowed := true, recurses := true, apart := false, narrowed := true }
def CurveKnownUptoSaid : Prop := curveKnownUptoRow.holds Try.pinned (OpenSpec.upto curveKnownSpec)

end Rows
end Go.Proofs.Ytkpmfcpgmhkleaa
