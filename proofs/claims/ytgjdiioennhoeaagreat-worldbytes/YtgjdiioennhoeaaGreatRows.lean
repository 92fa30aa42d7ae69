/-
  No cell of these rows narrows 'for every input' (looked for: loops, veiled, ifaces, maps, wideKeys, modest, calm, conditions, laid).
  DERIVED. THE GIVEN ROWS OF THIS SEAT. 17 by the template 'for every input the law returns true; each argument reads behind the call as it read before'; 0 by the template 'total and deterministic' (their statements: YtgjdiioennhoeaaGreatTotals.lean).
  GIVEN WITH THE SEED: the statements are not yours to turn. If you find one false, say at which input.
  Laid BY PROGRAM, IN A SANDBOX (cutbox-rows.mjs): the forced cells as the released guide's own fill.sh prints them over the translation fb2799982c02c4f0… (all of the seat's roots in one cut). By AI agents, Wed Nov 11 2026. No macro, syntax, notation, axiom, sorry.
-/
import Derived.Test.YtgjdiioennhoeaaGreatChecked
import GoSem.Claim
import GoSem.ClaimJoined
import GoSem.ClaimMapViews
import Derived.JoinedTies
import Derived.KernelRfl
namespace Go.Proofs.YtgjdiioennhoeaaGreat
/- THE CELL 'sum', in the pinned program and in every row, IS THE sha256 OF THE DUMP (.gsa) THAT YtgjdiioennhoeaaGreatProg.lean LOADS. Nothing in Lean hashes anything: it is a label: what it is worth is what the hold of that sum in a sandbox is worth. -/
noncomputable def Tryz.pinned : Pinned := { name := "ytgjdiioennhoeaagreat", sum := "fb2799982c02c4f099f71ab19b17a805ceda981cdae41b7e802725afe9b4fd16", checked := Tryz.checked }
namespace Rows
def none {H : Type} : Left H := { results := [], args := [] }

/-- 'kerbstonelaw04.WorldChecks': WHATEVER THE INPUT: true; the input reads as it did. -/
def worldChecksSpec : ChangeSpec := { name := "worldChecks", fn := fun _ => fun
  | [d1, d2] => { results := [.lit (.bool true)], args := [d1, d2] }
  | _ => none }
def worldChecksRow : OpenClaim := { program := "ytgjdiioennhoeaagreat", sum := "fb2799982c02c4f099f71ab19b17a805ceda981cdae41b7e802725afe9b4fd16", func := "kerbstone/kerbstonelaw04.WorldChecks", spec := "worldChecks", unfollowed := true, recurses := true, apart := false }
def WorldChecksSaid : Prop := worldChecksRow.holds Tryz.pinned (OpenSpec.ofChange worldChecksSpec)

/-- ITS FALSE NEIGHBOUR: 'it returns false'. Refute it at one input. -/
def worldChecksWrong : ChangeSpec := { name := "worldChecks", fn := fun _ => fun
  | [d1, d2] => { results := [.lit (.bool false)], args := [d1, d2] }
  | _ => none }
def WorldChecksWrongFalsely : Prop := worldChecksRow.holds Tryz.pinned (OpenSpec.ofChange worldChecksWrong)

/-- 'kerbstonelaw04.WorldBegins': WHATEVER THE INPUT: true; the input reads as it did. -/
def worldBeginsSpec : ChangeSpec := { name := "worldBegins", fn := fun _ => fun
  | [d1, d2] => { results := [.lit (.bool true)], args := [d1, d2] }
  | _ => none }
def worldBeginsRow : OpenClaim := { program := "ytgjdiioennhoeaagreat", sum := "fb2799982c02c4f099f71ab19b17a805ceda981cdae41b7e802725afe9b4fd16", func := "kerbstone/kerbstonelaw04.WorldBegins", spec := "worldBegins", unfollowed := true, recurses := true, apart := false }
def WorldBeginsSaid : Prop := worldBeginsRow.holds Tryz.pinned (OpenSpec.ofChange worldBeginsSpec)

/-- ITS FALSE NEIGHBOUR: 'it returns false'. Refute it at one input. -/
def worldBeginsWrong : ChangeSpec := { name := "worldBegins", fn := fun _ => fun
  | [d1, d2] => { results := [.lit (.bool false)], args := [d1, d2] }
  | _ => none }
def WorldBeginsWrongFalsely : Prop := worldBeginsRow.holds Tryz.pinned (OpenSpec.ofChange worldBeginsWrong)

/-- 'kerbstonelaw04.WorldMoves': WHATEVER THE INPUT: true; the input reads as it did. -/
def worldMovesSpec : ChangeSpec := { name := "worldMoves", fn := fun _ => fun
  | [d1, d2, d3, d4] => { results := [.lit (.bool true)], args := [d1, d2, d3, d4] }
  | _ => none }
def worldMovesRow : OpenClaim := { program := "ytgjdiioennhoeaagreat", sum := "fb2799982c02c4f099f71ab19b17a805ceda981cdae41b7e802725afe9b4fd16", func := "kerbstone/kerbstonelaw04.WorldMoves", spec := "worldMoves", unfollowed := true, recurses := true, apart := false }
def WorldMovesSaid : Prop := worldMovesRow.holds Tryz.pinned (OpenSpec.ofChange worldMovesSpec)

/-- ITS FALSE NEIGHBOUR: 'it returns false'. Refute it at one input. -/
def worldMovesWrong : ChangeSpec := { name := "worldMoves", fn := fun _ => fun
  | [d1, d2, d3, d4] => { results := [.lit (.bool false)], args := [d1, d2, d3, d4] }
  | _ => none }
def WorldMovesWrongFalsely : Prop := worldMovesRow.holds Tryz.pinned (OpenSpec.ofChange worldMovesWrong)

/-- 'kerbstonelaw04.WorldSteps': WHATEVER THE INPUT: true; the input reads as it did. -/
def worldStepsSpec : ChangeSpec := { name := "worldSteps", fn := fun _ => fun
  | [d1, d2, d3] => { results := [.lit (.bool true)], args := [d1, d2, d3] }
  | _ => none }
def worldStepsRow : OpenClaim := { program := "ytgjdiioennhoeaagreat", sum := "fb2799982c02c4f099f71ab19b17a805ceda981cdae41b7e802725afe9b4fd16", func := "kerbstone/kerbstonelaw04.WorldSteps", spec := "worldSteps", unfollowed := true, recurses := true, apart := false }
def WorldStepsSaid : Prop := worldStepsRow.holds Tryz.pinned (OpenSpec.ofChange worldStepsSpec)

/-- ITS FALSE NEIGHBOUR: 'it returns false'. Refute it at one input. -/
def worldStepsWrong : ChangeSpec := { name := "worldSteps", fn := fun _ => fun
  | [d1, d2, d3] => { results := [.lit (.bool false)], args := [d1, d2, d3] }
  | _ => none }
def WorldStepsWrongFalsely : Prop := worldStepsRow.holds Tryz.pinned (OpenSpec.ofChange worldStepsWrong)

/-- 'kerbstonelaw04.WorldValid': WHATEVER THE INPUT: true; the input reads as it did. -/
def worldValidSpec : ChangeSpec := { name := "worldValid", fn := fun _ => fun
  | [d1, d2, d3] => { results := [.lit (.bool true)], args := [d1, d2, d3] }
  | _ => none }
def worldValidRow : OpenClaim := { program := "ytgjdiioennhoeaagreat", sum := "fb2799982c02c4f099f71ab19b17a805ceda981cdae41b7e802725afe9b4fd16", func := "kerbstone/kerbstonelaw04.WorldValid", spec := "worldValid", unfollowed := true, recurses := true, apart := false }
def WorldValidSaid : Prop := worldValidRow.holds Tryz.pinned (OpenSpec.ofChange worldValidSpec)

/-- ITS FALSE NEIGHBOUR: 'it returns false'. Refute it at one input. -/
def worldValidWrong : ChangeSpec := { name := "worldValid", fn := fun _ => fun
  | [d1, d2, d3] => { results := [.lit (.bool false)], args := [d1, d2, d3] }
  | _ => none }
def WorldValidWrongFalsely : Prop := worldValidRow.holds Tryz.pinned (OpenSpec.ofChange worldValidWrong)

/-- 'kerbstonelaw04.WorldObeys': WHATEVER THE INPUT: true; the input reads as it did. -/
def worldObeysSpec : ChangeSpec := { name := "worldObeys", fn := fun _ => fun
  | [d1, d2, d3, d4] => { results := [.lit (.bool true)], args := [d1, d2, d3, d4] }
  | _ => none }
def worldObeysRow : OpenClaim := { program := "ytgjdiioennhoeaagreat", sum := "fb2799982c02c4f099f71ab19b17a805ceda981cdae41b7e802725afe9b4fd16", func := "kerbstone/kerbstonelaw04.WorldObeys", spec := "worldObeys", unfollowed := true, recurses := true, apart := false }
def WorldObeysSaid : Prop := worldObeysRow.holds Tryz.pinned (OpenSpec.ofChange worldObeysSpec)

/-- ITS FALSE NEIGHBOUR: 'it returns false'. Refute it at one input. -/
def worldObeysWrong : ChangeSpec := { name := "worldObeys", fn := fun _ => fun
  | [d1, d2, d3, d4] => { results := [.lit (.bool false)], args := [d1, d2, d3, d4] }
  | _ => none }
def WorldObeysWrongFalsely : Prop := worldObeysRow.holds Tryz.pinned (OpenSpec.ofChange worldObeysWrong)

/-- 'kerbstonelaw04.WorldGaps': WHATEVER THE INPUT: true; the input reads as it did. -/
def worldGapsSpec : ChangeSpec := { name := "worldGaps", fn := fun _ => fun
  | [d1, d2, d3, d4, d5] => { results := [.lit (.bool true)], args := [d1, d2, d3, d4, d5] }
  | _ => none }
def worldGapsRow : OpenClaim := { program := "ytgjdiioennhoeaagreat", sum := "fb2799982c02c4f099f71ab19b17a805ceda981cdae41b7e802725afe9b4fd16", func := "kerbstone/kerbstonelaw04.WorldGaps", spec := "worldGaps", unfollowed := true, recurses := true, apart := false }
def WorldGapsSaid : Prop := worldGapsRow.holds Tryz.pinned (OpenSpec.ofChange worldGapsSpec)

/-- ITS FALSE NEIGHBOUR: 'it returns false'. Refute it at one input. -/
def worldGapsWrong : ChangeSpec := { name := "worldGaps", fn := fun _ => fun
  | [d1, d2, d3, d4, d5] => { results := [.lit (.bool false)], args := [d1, d2, d3, d4, d5] }
  | _ => none }
def WorldGapsWrongFalsely : Prop := worldGapsRow.holds Tryz.pinned (OpenSpec.ofChange worldGapsWrong)

/-- 'kerbstonelaw04.WorldBlame': WHATEVER THE INPUT: true; the input reads as it did. -/
def worldBlameSpec : ChangeSpec := { name := "worldBlame", fn := fun _ => fun
  | [d1, d2, d3] => { results := [.lit (.bool true)], args := [d1, d2, d3] }
  | _ => none }
def worldBlameRow : OpenClaim := { program := "ytgjdiioennhoeaagreat", sum := "fb2799982c02c4f099f71ab19b17a805ceda981cdae41b7e802725afe9b4fd16", func := "kerbstone/kerbstonelaw04.WorldBlame", spec := "worldBlame", unfollowed := true, recurses := true, apart := false }
def WorldBlameSaid : Prop := worldBlameRow.holds Tryz.pinned (OpenSpec.ofChange worldBlameSpec)

/-- ITS FALSE NEIGHBOUR: 'it returns false'. Refute it at one input. -/
def worldBlameWrong : ChangeSpec := { name := "worldBlame", fn := fun _ => fun
  | [d1, d2, d3] => { results := [.lit (.bool false)], args := [d1, d2, d3] }
  | _ => none }
def WorldBlameWrongFalsely : Prop := worldBlameRow.holds Tryz.pinned (OpenSpec.ofChange worldBlameWrong)

/-- 'kerbstonelaw04.WorldStops': WHATEVER THE INPUT: true; the input reads as it did. -/
def worldStopsSpec : ChangeSpec := { name := "worldStops", fn := fun _ => fun
  | [d1, d2, d3] => { results := [.lit (.bool true)], args := [d1, d2, d3] }
  | _ => none }
def worldStopsRow : OpenClaim := { program := "ytgjdiioennhoeaagreat", sum := "fb2799982c02c4f099f71ab19b17a805ceda981cdae41b7e802725afe9b4fd16", func := "kerbstone/kerbstonelaw04.WorldStops", spec := "worldStops", unfollowed := true, recurses := true, apart := false }
def WorldStopsSaid : Prop := worldStopsRow.holds Tryz.pinned (OpenSpec.ofChange worldStopsSpec)

/-- ITS FALSE NEIGHBOUR: 'it returns false'. Refute it at one input. -/
def worldStopsWrong : ChangeSpec := { name := "worldStops", fn := fun _ => fun
  | [d1, d2, d3] => { results := [.lit (.bool false)], args := [d1, d2, d3] }
  | _ => none }
def WorldStopsWrongFalsely : Prop := worldStopsRow.holds Tryz.pinned (OpenSpec.ofChange worldStopsWrong)

/-- 'kerbstonelaw04.WorldMarks': WHATEVER THE INPUT: true; the input reads as it did. -/
def worldMarksSpec : ChangeSpec := { name := "worldMarks", fn := fun _ => fun
  | [d1, d2] => { results := [.lit (.bool true)], args := [d1, d2] }
  | _ => none }
def worldMarksRow : OpenClaim := { program := "ytgjdiioennhoeaagreat", sum := "fb2799982c02c4f099f71ab19b17a805ceda981cdae41b7e802725afe9b4fd16", func := "kerbstone/kerbstonelaw04.WorldMarks", spec := "worldMarks", unfollowed := true, recurses := true, apart := false }
def WorldMarksSaid : Prop := worldMarksRow.holds Tryz.pinned (OpenSpec.ofChange worldMarksSpec)

/-- ITS FALSE NEIGHBOUR: 'it returns false'. Refute it at one input. -/
def worldMarksWrong : ChangeSpec := { name := "worldMarks", fn := fun _ => fun
  | [d1, d2] => { results := [.lit (.bool false)], args := [d1, d2] }
  | _ => none }
def WorldMarksWrongFalsely : Prop := worldMarksRow.holds Tryz.pinned (OpenSpec.ofChange worldMarksWrong)

/-- 'kerbstonelaw04.WorldContains': WHATEVER THE INPUT: true; the input reads as it did. -/
def worldContainsSpec : ChangeSpec := { name := "worldContains", fn := fun _ => fun
  | [d1, d2, d3, d4] => { results := [.lit (.bool true)], args := [d1, d2, d3, d4] }
  | _ => none }
def worldContainsRow : OpenClaim := { program := "ytgjdiioennhoeaagreat", sum := "fb2799982c02c4f099f71ab19b17a805ceda981cdae41b7e802725afe9b4fd16", func := "kerbstone/kerbstonelaw04.WorldContains", spec := "worldContains", unfollowed := true, recurses := true, apart := false }
def WorldContainsSaid : Prop := worldContainsRow.holds Tryz.pinned (OpenSpec.ofChange worldContainsSpec)

/-- ITS FALSE NEIGHBOUR: 'it returns false'. Refute it at one input. -/
def worldContainsWrong : ChangeSpec := { name := "worldContains", fn := fun _ => fun
  | [d1, d2, d3, d4] => { results := [.lit (.bool false)], args := [d1, d2, d3, d4] }
  | _ => none }
def WorldContainsWrongFalsely : Prop := worldContainsRow.holds Tryz.pinned (OpenSpec.ofChange worldContainsWrong)

/-- 'kerbstonelaw04.WorldBytes': WHATEVER THE INPUT: true; the input reads as it did. -/
def worldBytesSpec : ChangeSpec := { name := "worldBytes", fn := fun _ => fun
  | [d1, d2, d3] => { results := [.lit (.bool true)], args := [d1, d2, d3] }
  | _ => none }
def worldBytesRow : OpenClaim := { program := "ytgjdiioennhoeaagreat", sum := "fb2799982c02c4f099f71ab19b17a805ceda981cdae41b7e802725afe9b4fd16", func := "kerbstone/kerbstonelaw04.WorldBytes", spec := "worldBytes", unfollowed := true, recurses := true, apart := false }
def WorldBytesSaid : Prop := worldBytesRow.holds Tryz.pinned (OpenSpec.ofChange worldBytesSpec)

/-- ITS FALSE NEIGHBOUR: 'it returns false'. Refute it at one input. -/
def worldBytesWrong : ChangeSpec := { name := "worldBytes", fn := fun _ => fun
  | [d1, d2, d3] => { results := [.lit (.bool false)], args := [d1, d2, d3] }
  | _ => none }
def WorldBytesWrongFalsely : Prop := worldBytesRow.holds Tryz.pinned (OpenSpec.ofChange worldBytesWrong)

/-- 'kerbstonelaw04.WorldBack': WHATEVER THE INPUT: true; the input reads as it did. -/
def worldBackSpec : ChangeSpec := { name := "worldBack", fn := fun _ => fun
  | [d1, d2, d3] => { results := [.lit (.bool true)], args := [d1, d2, d3] }
  | _ => none }
def worldBackRow : OpenClaim := { program := "ytgjdiioennhoeaagreat", sum := "fb2799982c02c4f099f71ab19b17a805ceda981cdae41b7e802725afe9b4fd16", func := "kerbstone/kerbstonelaw04.WorldBack", spec := "worldBack", unfollowed := true, recurses := true, apart := false }
def WorldBackSaid : Prop := worldBackRow.holds Tryz.pinned (OpenSpec.ofChange worldBackSpec)

/-- ITS FALSE NEIGHBOUR: 'it returns false'. Refute it at one input. -/
def worldBackWrong : ChangeSpec := { name := "worldBack", fn := fun _ => fun
  | [d1, d2, d3] => { results := [.lit (.bool false)], args := [d1, d2, d3] }
  | _ => none }
def WorldBackWrongFalsely : Prop := worldBackRow.holds Tryz.pinned (OpenSpec.ofChange worldBackWrong)

/-- 'kerbstonelaw04.WorldSees': WHATEVER THE INPUT: true; the input reads as it did. -/
def worldSeesSpec : ChangeSpec := { name := "worldSees", fn := fun _ => fun
  | [d1, d2, d3, d4] => { results := [.lit (.bool true)], args := [d1, d2, d3, d4] }
  | _ => none }
def worldSeesRow : OpenClaim := { program := "ytgjdiioennhoeaagreat", sum := "fb2799982c02c4f099f71ab19b17a805ceda981cdae41b7e802725afe9b4fd16", func := "kerbstone/kerbstonelaw04.WorldSees", spec := "worldSees", unfollowed := true, recurses := true, apart := false }
def WorldSeesSaid : Prop := worldSeesRow.holds Tryz.pinned (OpenSpec.ofChange worldSeesSpec)

/-- ITS FALSE NEIGHBOUR: 'it returns false'. Refute it at one input. -/
def worldSeesWrong : ChangeSpec := { name := "worldSees", fn := fun _ => fun
  | [d1, d2, d3, d4] => { results := [.lit (.bool false)], args := [d1, d2, d3, d4] }
  | _ => none }
def WorldSeesWrongFalsely : Prop := worldSeesRow.holds Tryz.pinned (OpenSpec.ofChange worldSeesWrong)

/-- 'kerbstonelaw04.WorldScans': WHATEVER THE INPUT: true; the input reads as it did. -/
def worldScansSpec : ChangeSpec := { name := "worldScans", fn := fun _ => fun
  | [d1, d2, d3, d4] => { results := [.lit (.bool true)], args := [d1, d2, d3, d4] }
  | _ => none }
def worldScansRow : OpenClaim := { program := "ytgjdiioennhoeaagreat", sum := "fb2799982c02c4f099f71ab19b17a805ceda981cdae41b7e802725afe9b4fd16", func := "kerbstone/kerbstonelaw04.WorldScans", spec := "worldScans", unfollowed := true, recurses := true, apart := false }
def WorldScansSaid : Prop := worldScansRow.holds Tryz.pinned (OpenSpec.ofChange worldScansSpec)

/-- ITS FALSE NEIGHBOUR: 'it returns false'. Refute it at one input. -/
def worldScansWrong : ChangeSpec := { name := "worldScans", fn := fun _ => fun
  | [d1, d2, d3, d4] => { results := [.lit (.bool false)], args := [d1, d2, d3, d4] }
  | _ => none }
def WorldScansWrongFalsely : Prop := worldScansRow.holds Tryz.pinned (OpenSpec.ofChange worldScansWrong)

/-- 'kerbstonelaw04.WorldPoints': WHATEVER THE INPUT: true; the input reads as it did. -/
def worldPointsSpec : ChangeSpec := { name := "worldPoints", fn := fun _ => fun
  | [d1, d2, d3, d4] => { results := [.lit (.bool true)], args := [d1, d2, d3, d4] }
  | _ => none }
def worldPointsRow : OpenClaim := { program := "ytgjdiioennhoeaagreat", sum := "fb2799982c02c4f099f71ab19b17a805ceda981cdae41b7e802725afe9b4fd16", func := "kerbstone/kerbstonelaw04.WorldPoints", spec := "worldPoints", unfollowed := true, recurses := true, apart := false }
def WorldPointsSaid : Prop := worldPointsRow.holds Tryz.pinned (OpenSpec.ofChange worldPointsSpec)

/-- ITS FALSE NEIGHBOUR: 'it returns false'. Refute it at one input. -/
def worldPointsWrong : ChangeSpec := { name := "worldPoints", fn := fun _ => fun
  | [d1, d2, d3, d4] => { results := [.lit (.bool false)], args := [d1, d2, d3, d4] }
  | _ => none }
def WorldPointsWrongFalsely : Prop := worldPointsRow.holds Tryz.pinned (OpenSpec.ofChange worldPointsWrong)

/-- 'kerbstonelaw04.WorldKnown': WHATEVER THE INPUT: true; the input reads as it did. -/
def worldKnownSpec : ChangeSpec := { name := "worldKnown", fn := fun _ => fun
  | [] => { results := [.lit (.bool true)], args := [] }
  | _ => none }
def worldKnownRow : OpenClaim := { program := "ytgjdiioennhoeaagreat", sum := "fb2799982c02c4f099f71ab19b17a805ceda981cdae41b7e802725afe9b4fd16", func := "kerbstone/kerbstonelaw04.WorldKnown", spec := "worldKnown", unfollowed := true, recurses := true, apart := false }
def WorldKnownSaid : Prop := worldKnownRow.holds Tryz.pinned (OpenSpec.ofChange worldKnownSpec)

/-- ITS FALSE NEIGHBOUR: 'it returns false'. Refute it at one input. -/
def worldKnownWrong : ChangeSpec := { name := "worldKnown", fn := fun _ => fun
  | [] => { results := [.lit (.bool false)], args := [] }
  | _ => none }
def WorldKnownWrongFalsely : Prop := worldKnownRow.holds Tryz.pinned (OpenSpec.ofChange worldKnownWrong)

/- THE SECOND FORM. 'bulk': how many values and letters a reading holds, each counted each time it is reached (what is shared counts as often as it is met; a slice's spare places count too). A statement '..UptoSaid' is the law's where the arguments, and the package variables that the reading takes, are together of bulk at most 1048576: NARROWER than '..Said'. Prove '..Said' where nothing that the law and all that it calls make is longer than what came in: it says more and counts as full. Else prove '..UptoSaid'. A law counts once. -/
mutual
def uptoBulk {H : Type} : DataW H → Nat
  | .lit (.string bytes) => bytes.length + 1
  | .lit _ => 1
  | .nil => 1
  | .ptr d => uptoBulk d + 1
  | .slice elems spare => uptoBulkAll elems + uptoBulkAll spare + 1
  | .agg parts => uptoBulkAll parts + 1
  | .iface _ d => uptoBulk d + 1
  | .map entries => uptoBulkEntries entries + 1
  | .held _ => 1
def uptoBulkAll {H : Type} : List (DataW H) → Nat
  | [] => 0
  | d :: r => uptoBulk d + uptoBulkAll r
def uptoBulkEntries {H : Type} : List (Lit × DataW H) → Nat
  | [] => 0
  | x :: r => uptoBulkEntry x + uptoBulkEntries r
def uptoBulkEntry {H : Type} : Lit × DataW H → Nat
  | (.string bytes, d) => bytes.length + uptoBulk d + 1
  | (_, d) => uptoBulk d + 1
 end
def uptoSmall : (H : Type) → List (DataW H) → Bool := fun _ ds => decide (uptoBulkAll ds ≤ 1048576)
def OpenSpec.upto (s : _root_.Go.ChangeSpec) : _root_.Go.OpenSpec := { _root_.Go.OpenSpec.ofChange s with cond := some uptoSmall }

/-- 'kerbstonelaw04.WorldChecks', WHERE WHAT IT READS IS OF BULK AT MOST 1048576: true; the input reads as it did. -/
def worldChecksUptoRow : OpenClaim := { program := "ytgjdiioennhoeaagreat", sum := "fb2799982c02c4f099f71ab19b17a805ceda981cdae41b7e802725afe9b4fd16", func := "kerbstone/kerbstonelaw04.WorldChecks", spec := "worldChecks", unfollowed := true, recurses := true, apart := false, narrowed := true }
def WorldChecksUptoSaid : Prop := worldChecksUptoRow.holds Tryz.pinned (OpenSpec.upto worldChecksSpec)

/-- 'kerbstonelaw04.WorldBegins', WHERE WHAT IT READS IS OF BULK AT MOST 1048576: true; the input reads as it did. -/
def worldBeginsUptoRow : OpenClaim := { program := "ytgjdiioennhoeaagreat", sum := "fb2799982c02c4f099f71ab19b17a805ceda981cdae41b7e802725afe9b4fd16", func := "kerbstone/kerbstonelaw04.WorldBegins", spec := "worldBegins", unfollowed := true, recurses := true, apart := false, narrowed := true }
def WorldBeginsUptoSaid : Prop := worldBeginsUptoRow.holds Tryz.pinned (OpenSpec.upto worldBeginsSpec)

/-- 'kerbstonelaw04.WorldMoves', WHERE WHAT IT READS IS OF BULK AT MOST 1048576: true; the input reads as it did. -/
def worldMovesUptoRow : OpenClaim := { program := "ytgjdiioennhoeaagreat", sum := "fb2799982c02c4f099f71ab19b17a805ceda981cdae41b7e802725afe9b4fd16", func := "kerbstone/kerbstonelaw04.WorldMoves", spec := "worldMoves", unfollowed := true, recurses := true, apart := false, narrowed := true }
def WorldMovesUptoSaid : Prop := worldMovesUptoRow.holds Tryz.pinned (OpenSpec.upto worldMovesSpec)

/-- 'kerbstonelaw04.WorldSteps', WHERE WHAT IT READS IS OF BULK AT MOST 1048576: true; the input reads as it did. -/
def worldStepsUptoRow : OpenClaim := { program := "ytgjdiioennhoeaagreat", sum := "fb2799982c02c4f099f71ab19b17a805ceda981cdae41b7e802725afe9b4fd16", func := "kerbstone/kerbstonelaw04.WorldSteps", spec := "worldSteps", unfollowed := true, recurses := true, apart := false, narrowed := true }
def WorldStepsUptoSaid : Prop := worldStepsUptoRow.holds Tryz.pinned (OpenSpec.upto worldStepsSpec)

/-- 'kerbstonelaw04.WorldValid', WHERE WHAT IT READS IS OF BULK AT MOST 1048576: true; the input reads as it did. -/
def worldValidUptoRow : OpenClaim := { program := "ytgjdiioennhoeaagreat", sum := "fb2799982c02c4f099f71ab19b17a805ceda981cdae41b7e802725afe9b4fd16", func := "kerbstone/kerbstonelaw04.WorldValid", spec := "worldValid", unfollowed := true, recurses := true, apart := false, narrowed := true }
def WorldValidUptoSaid : Prop := worldValidUptoRow.holds Tryz.pinned (OpenSpec.upto worldValidSpec)

/-- 'kerbstonelaw04.WorldObeys', WHERE WHAT IT READS IS OF BULK AT MOST 1048576: true; the input reads as it did. -/
def worldObeysUptoRow : OpenClaim := { program := "ytgjdiioennhoeaagreat", sum := "fb2799982c02c4f099f71ab19b17a805ceda981cdae41b7e802725afe9b4fd16", func := "kerbstone/kerbstonelaw04.WorldObeys", spec := "worldObeys", unfollowed := true, recurses := true, apart := false, narrowed := true }
def WorldObeysUptoSaid : Prop := worldObeysUptoRow.holds Tryz.pinned (OpenSpec.upto worldObeysSpec)

/-- 'kerbstonelaw04.WorldGaps', WHERE WHAT IT READS IS OF BULK AT MOST 1048576: true; the input reads as it did. -/
def worldGapsUptoRow : OpenClaim := { program := "ytgjdiioennhoeaagreat", sum := "fb2799982c02c4f099f71ab19b17a805ceda981cdae41b7e802725afe9b4fd16", func := "kerbstone/kerbstonelaw04.WorldGaps", spec := "worldGaps", unfollowed := true, recurses := true, apart := false, narrowed := true }
def WorldGapsUptoSaid : Prop := worldGapsUptoRow.holds Tryz.pinned (OpenSpec.upto worldGapsSpec)

/-- 'kerbstonelaw04.WorldBlame', WHERE WHAT IT READS IS OF BULK AT MOST 1048576: true; the input reads as it did. -/
def worldBlameUptoRow : OpenClaim := { program := "ytgjdiioennhoeaagreat", sum := "fb2799982c02c4f099f71ab19b17a805ceda981cdae41b7e802725afe9b4fd16", func := "kerbstone/kerbstonelaw04.WorldBlame", spec := "worldBlame", unfollowed := true, recurses := true, apart := false, narrowed := true }
def WorldBlameUptoSaid : Prop := worldBlameUptoRow.holds Tryz.pinned (OpenSpec.upto worldBlameSpec)

/-- 'kerbstonelaw04.WorldStops', WHERE WHAT IT READS IS OF BULK AT MOST 1048576: true; the input reads as it did. -/
def worldStopsUptoRow : OpenClaim := { program := "ytgjdiioennhoeaagreat", sum := "fb2799982c02c4f099f71ab19b17a805ceda981cdae41b7e802725afe9b4fd16", func := "kerbstone/kerbstonelaw04.WorldStops", spec := "worldStops", unfollowed := true, recurses := true, apart := false, narrowed := true }
def WorldStopsUptoSaid : Prop := worldStopsUptoRow.holds Tryz.pinned (OpenSpec.upto worldStopsSpec)

/-- 'kerbstonelaw04.WorldMarks', WHERE WHAT IT READS IS OF BULK AT MOST 1048576: true; the input reads as it did. -/
def worldMarksUptoRow : OpenClaim := { program := "ytgjdiioennhoeaagreat", sum := "fb2799982c02c4f099f71ab19b17a805ceda981cdae41b7e802725afe9b4fd16", func := "kerbstone/kerbstonelaw04.WorldMarks", spec := "worldMarks", unfollowed := true, recurses := true, apart := false, narrowed := true }
def WorldMarksUptoSaid : Prop := worldMarksUptoRow.holds Tryz.pinned (OpenSpec.upto worldMarksSpec)

/-- 'kerbstonelaw04.WorldContains', WHERE WHAT IT READS IS OF BULK AT MOST 1048576: true; the input reads as it did. -/
def worldContainsUptoRow : OpenClaim := { program := "ytgjdiioennhoeaagreat", sum := "fb2799982c02c4f099f71ab19b17a805ceda981cdae41b7e802725afe9b4fd16", func := "kerbstone/kerbstonelaw04.WorldContains", spec := "worldContains", unfollowed := true, recurses := true, apart := false, narrowed := true }
def WorldContainsUptoSaid : Prop := worldContainsUptoRow.holds Tryz.pinned (OpenSpec.upto worldContainsSpec)

/-- 'kerbstonelaw04.WorldBytes', WHERE WHAT IT READS IS OF BULK AT MOST 1048576: true; the input reads as it did. -/
def worldBytesUptoRow : OpenClaim := { program := "ytgjdiioennhoeaagreat", sum := "fb2799982c02c4f099f71ab19b17a805ceda981cdae41b7e802725afe9b4fd16", func := "kerbstone/kerbstonelaw04.WorldBytes", spec := "worldBytes", unfollowed := true, recurses := true, apart := false, narrowed := true }
def WorldBytesUptoSaid : Prop := worldBytesUptoRow.holds Tryz.pinned (OpenSpec.upto worldBytesSpec)

/-- 'kerbstonelaw04.WorldBack', WHERE WHAT IT READS IS OF BULK AT MOST 1048576: true; the input reads as it did. -/
def worldBackUptoRow : OpenClaim := { program := "ytgjdiioennhoeaagreat", sum := "fb2799982c02c4f099f71ab19b17a805ceda981cdae41b7e802725afe9b4fd16", func := "kerbstone/kerbstonelaw04.WorldBack", spec := "worldBack", unfollowed := true, recurses := true, apart := false, narrowed := true }
def WorldBackUptoSaid : Prop := worldBackUptoRow.holds Tryz.pinned (OpenSpec.upto worldBackSpec)

/-- 'kerbstonelaw04.WorldSees', WHERE WHAT IT READS IS OF BULK AT MOST 1048576: true; the input reads as it did. -/
def worldSeesUptoRow : OpenClaim := { program := "ytgjdiioennhoeaagreat", sum := "fb2799982c02c4f099f71ab19b17a805ceda981cdae41b7e802725afe9b4fd16", func := "kerbstone/kerbstonelaw04.WorldSees", spec := "worldSees", unfollowed := true, recurses := true, apart := false, narrowed := true }
def WorldSeesUptoSaid : Prop := worldSeesUptoRow.holds Tryz.pinned (OpenSpec.upto worldSeesSpec)

/-- 'kerbstonelaw04.WorldScans', WHERE WHAT IT READS IS OF BULK AT MOST 1048576: true; the input reads as it did. -/
def worldScansUptoRow : OpenClaim := { program := "ytgjdiioennhoeaagreat", sum := "fb2799982c02c4f099f71ab19b17a805ceda981cdae41b7e802725afe9b4fd16", func := "kerbstone/kerbstonelaw04.WorldScans", spec := "worldScans", unfollowed := true, recurses := true, apart := false, narrowed := true }
def WorldScansUptoSaid : Prop := worldScansUptoRow.holds Tryz.pinned (OpenSpec.upto worldScansSpec)

/-- 'kerbstonelaw04.WorldPoints', WHERE WHAT IT READS IS OF BULK AT MOST 1048576: true; the input reads as it did. -/
def worldPointsUptoRow : OpenClaim := { program := "ytgjdiioennhoeaagreat", sum := "fb2799982c02c4f099f71ab19b17a805ceda981cdae41b7e802725afe9b4fd16", func := "kerbstone/kerbstonelaw04.WorldPoints", spec := "worldPoints", unfollowed := true, recurses := true, apart := false, narrowed := true }
def WorldPointsUptoSaid : Prop := worldPointsUptoRow.holds Tryz.pinned (OpenSpec.upto worldPointsSpec)

/-- 'kerbstonelaw04.WorldKnown', WHERE WHAT IT READS IS OF BULK AT MOST 1048576: true; the input reads as it did. -/
def worldKnownUptoRow : OpenClaim := { program := "ytgjdiioennhoeaagreat", sum := "fb2799982c02c4f099f71ab19b17a805ceda981cdae41b7e802725afe9b4fd16", func := "kerbstone/kerbstonelaw04.WorldKnown", spec := "worldKnown", unfollowed := true, recurses := true, apart := false, narrowed := true }
def WorldKnownUptoSaid : Prop := worldKnownUptoRow.holds Tryz.pinned (OpenSpec.upto worldKnownSpec)

end Rows
end Go.Proofs.YtgjdiioennhoeaaGreat
