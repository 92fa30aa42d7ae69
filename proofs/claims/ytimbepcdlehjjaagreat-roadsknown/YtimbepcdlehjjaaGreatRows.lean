/-
  No cell of these rows narrows 'for every input' (looked for: loops, veiled, ifaces, maps, wideKeys, modest, calm, conditions, laid).
  DERIVED. THE GIVEN ROWS OF THIS SEAT. 10 by the template 'for every input the law returns true; each argument reads behind the call as it read before'; 0 by the template 'total and deterministic' (their statements: YtimbepcdlehjjaaGreatTotals.lean).
  GIVEN WITH THE SEED: the statements are not yours to turn. If you find one false, say at which input.
  Laid BY PROGRAM, IN A SANDBOX (cutbox-rows.mjs): the forced cells as the released guide's own fill.sh prints them over the translation c3e0a1ae0afc99af… (all of the seat's roots in one cut). By AI agents, Wed Nov 11 2026. No macro, syntax, notation, axiom, sorry.
-/
import Derived.Test.YtimbepcdlehjjaaGreatChecked
import GoSem.Claim
import GoSem.ClaimJoined
import GoSem.ClaimMapViews
import Derived.JoinedTies
import Derived.KernelRfl
namespace Go.Proofs.YtimbepcdlehjjaaGreat
/- THE CELL 'sum', in the pinned program and in every row, IS THE sha256 OF THE DUMP (.gsa) THAT YtimbepcdlehjjaaGreatProg.lean LOADS. Nothing in Lean hashes anything: it is a label: what it is worth is what the hold of that sum in a sandbox is worth. -/
noncomputable def Tryz.pinned : Pinned := { name := "ytimbepcdlehjjaagreat", sum := "c3e0a1ae0afc99af3edc74c61f01bdf420456e08cd085161567a4e9930e02534", checked := Tryz.checked }
namespace Rows
def none {H : Type} : Left H := { results := [], args := [] }

/-- 'kerbstonelaw03.RoadsChecks': WHATEVER THE INPUT: true; the input reads as it did. -/
def roadsChecksSpec : ChangeSpec := { name := "roadsChecks", fn := fun _ => fun
  | [d] => { results := [.lit (.bool true)], args := [d] }
  | _ => none }
def roadsChecksRow : OpenClaim := { program := "ytimbepcdlehjjaagreat", sum := "c3e0a1ae0afc99af3edc74c61f01bdf420456e08cd085161567a4e9930e02534", func := "kerbstone/kerbstonelaw03.RoadsChecks", spec := "roadsChecks", unfollowed := true, recurses := true, apart := false }
def RoadsChecksSaid : Prop := roadsChecksRow.holds Tryz.pinned (OpenSpec.ofChange roadsChecksSpec)

/-- ITS FALSE NEIGHBOUR: 'it returns false'. Refute it at one input. -/
def roadsChecksWrong : ChangeSpec := { name := "roadsChecks", fn := fun _ => fun
  | [d] => { results := [.lit (.bool false)], args := [d] }
  | _ => none }
def RoadsChecksWrongFalsely : Prop := roadsChecksRow.holds Tryz.pinned (OpenSpec.ofChange roadsChecksWrong)

/-- 'kerbstonelaw03.RoadsApplies': WHATEVER THE INPUT: true; the input reads as it did. -/
def roadsAppliesSpec : ChangeSpec := { name := "roadsApplies", fn := fun _ => fun
  | [d1, d2] => { results := [.lit (.bool true)], args := [d1, d2] }
  | _ => none }
def roadsAppliesRow : OpenClaim := { program := "ytimbepcdlehjjaagreat", sum := "c3e0a1ae0afc99af3edc74c61f01bdf420456e08cd085161567a4e9930e02534", func := "kerbstone/kerbstonelaw03.RoadsApplies", spec := "roadsApplies", unfollowed := true, recurses := true, apart := false }
def RoadsAppliesSaid : Prop := roadsAppliesRow.holds Tryz.pinned (OpenSpec.ofChange roadsAppliesSpec)

/-- ITS FALSE NEIGHBOUR: 'it returns false'. Refute it at one input. -/
def roadsAppliesWrong : ChangeSpec := { name := "roadsApplies", fn := fun _ => fun
  | [d1, d2] => { results := [.lit (.bool false)], args := [d1, d2] }
  | _ => none }
def RoadsAppliesWrongFalsely : Prop := roadsAppliesRow.holds Tryz.pinned (OpenSpec.ofChange roadsAppliesWrong)

/-- 'kerbstonelaw03.RoadsDiffs': WHATEVER THE INPUT: true; the input reads as it did. -/
def roadsDiffsSpec : ChangeSpec := { name := "roadsDiffs", fn := fun _ => fun
  | [d1, d2] => { results := [.lit (.bool true)], args := [d1, d2] }
  | _ => none }
def roadsDiffsRow : OpenClaim := { program := "ytimbepcdlehjjaagreat", sum := "c3e0a1ae0afc99af3edc74c61f01bdf420456e08cd085161567a4e9930e02534", func := "kerbstone/kerbstonelaw03.RoadsDiffs", spec := "roadsDiffs", unfollowed := true, recurses := true, apart := false }
def RoadsDiffsSaid : Prop := roadsDiffsRow.holds Tryz.pinned (OpenSpec.ofChange roadsDiffsSpec)

/-- ITS FALSE NEIGHBOUR: 'it returns false'. Refute it at one input. -/
def roadsDiffsWrong : ChangeSpec := { name := "roadsDiffs", fn := fun _ => fun
  | [d1, d2] => { results := [.lit (.bool false)], args := [d1, d2] }
  | _ => none }
def RoadsDiffsWrongFalsely : Prop := roadsDiffsRow.holds Tryz.pinned (OpenSpec.ofChange roadsDiffsWrong)

/-- 'kerbstonelaw03.RoadsClashes': WHATEVER THE INPUT: true; the input reads as it did. -/
def roadsClashesSpec : ChangeSpec := { name := "roadsClashes", fn := fun _ => fun
  | [d] => { results := [.lit (.bool true)], args := [d] }
  | _ => none }
def roadsClashesRow : OpenClaim := { program := "ytimbepcdlehjjaagreat", sum := "c3e0a1ae0afc99af3edc74c61f01bdf420456e08cd085161567a4e9930e02534", func := "kerbstone/kerbstonelaw03.RoadsClashes", spec := "roadsClashes", unfollowed := true, recurses := true, apart := false }
def RoadsClashesSaid : Prop := roadsClashesRow.holds Tryz.pinned (OpenSpec.ofChange roadsClashesSpec)

/-- ITS FALSE NEIGHBOUR: 'it returns false'. Refute it at one input. -/
def roadsClashesWrong : ChangeSpec := { name := "roadsClashes", fn := fun _ => fun
  | [d] => { results := [.lit (.bool false)], args := [d] }
  | _ => none }
def RoadsClashesWrongFalsely : Prop := roadsClashesRow.holds Tryz.pinned (OpenSpec.ofChange roadsClashesWrong)

/-- 'kerbstonelaw03.RoadsBack': WHATEVER THE INPUT: true; the input reads as it did. -/
def roadsBackSpec : ChangeSpec := { name := "roadsBack", fn := fun _ => fun
  | [d1, d2, d3] => { results := [.lit (.bool true)], args := [d1, d2, d3] }
  | _ => none }
def roadsBackRow : OpenClaim := { program := "ytimbepcdlehjjaagreat", sum := "c3e0a1ae0afc99af3edc74c61f01bdf420456e08cd085161567a4e9930e02534", func := "kerbstone/kerbstonelaw03.RoadsBack", spec := "roadsBack", unfollowed := true, recurses := true, apart := false }
def RoadsBackSaid : Prop := roadsBackRow.holds Tryz.pinned (OpenSpec.ofChange roadsBackSpec)

/-- ITS FALSE NEIGHBOUR: 'it returns false'. Refute it at one input. -/
def roadsBackWrong : ChangeSpec := { name := "roadsBack", fn := fun _ => fun
  | [d1, d2, d3] => { results := [.lit (.bool false)], args := [d1, d2, d3] }
  | _ => none }
def RoadsBackWrongFalsely : Prop := roadsBackRow.holds Tryz.pinned (OpenSpec.ofChange roadsBackWrong)

/-- 'kerbstonelaw03.RoadsPatches': WHATEVER THE INPUT: true; the input reads as it did. -/
def roadsPatchesSpec : ChangeSpec := { name := "roadsPatches", fn := fun _ => fun
  | [d1, d2] => { results := [.lit (.bool true)], args := [d1, d2] }
  | _ => none }
def roadsPatchesRow : OpenClaim := { program := "ytimbepcdlehjjaagreat", sum := "c3e0a1ae0afc99af3edc74c61f01bdf420456e08cd085161567a4e9930e02534", func := "kerbstone/kerbstonelaw03.RoadsPatches", spec := "roadsPatches", unfollowed := true, recurses := true, apart := false }
def RoadsPatchesSaid : Prop := roadsPatchesRow.holds Tryz.pinned (OpenSpec.ofChange roadsPatchesSpec)

/-- ITS FALSE NEIGHBOUR: 'it returns false'. Refute it at one input. -/
def roadsPatchesWrong : ChangeSpec := { name := "roadsPatches", fn := fun _ => fun
  | [d1, d2] => { results := [.lit (.bool false)], args := [d1, d2] }
  | _ => none }
def RoadsPatchesWrongFalsely : Prop := roadsPatchesRow.holds Tryz.pinned (OpenSpec.ofChange roadsPatchesWrong)

/-- 'kerbstonelaw03.RoadsRoutes': WHATEVER THE INPUT: true; the input reads as it did. -/
def roadsRoutesSpec : ChangeSpec := { name := "roadsRoutes", fn := fun _ => fun
  | [d1, d2, d3, d4] => { results := [.lit (.bool true)], args := [d1, d2, d3, d4] }
  | _ => none }
def roadsRoutesRow : OpenClaim := { program := "ytimbepcdlehjjaagreat", sum := "c3e0a1ae0afc99af3edc74c61f01bdf420456e08cd085161567a4e9930e02534", func := "kerbstone/kerbstonelaw03.RoadsRoutes", spec := "roadsRoutes", unfollowed := true, recurses := true, apart := false }
def RoadsRoutesSaid : Prop := roadsRoutesRow.holds Tryz.pinned (OpenSpec.ofChange roadsRoutesSpec)

/-- ITS FALSE NEIGHBOUR: 'it returns false'. Refute it at one input. -/
def roadsRoutesWrong : ChangeSpec := { name := "roadsRoutes", fn := fun _ => fun
  | [d1, d2, d3, d4] => { results := [.lit (.bool false)], args := [d1, d2, d3, d4] }
  | _ => none }
def RoadsRoutesWrongFalsely : Prop := roadsRoutesRow.holds Tryz.pinned (OpenSpec.ofChange roadsRoutesWrong)

/-- 'kerbstonelaw03.RoadsBytes': WHATEVER THE INPUT: true; the input reads as it did. -/
def roadsBytesSpec : ChangeSpec := { name := "roadsBytes", fn := fun _ => fun
  | [d1, d2, d3] => { results := [.lit (.bool true)], args := [d1, d2, d3] }
  | _ => none }
def roadsBytesRow : OpenClaim := { program := "ytimbepcdlehjjaagreat", sum := "c3e0a1ae0afc99af3edc74c61f01bdf420456e08cd085161567a4e9930e02534", func := "kerbstone/kerbstonelaw03.RoadsBytes", spec := "roadsBytes", unfollowed := true, recurses := true, apart := false }
def RoadsBytesSaid : Prop := roadsBytesRow.holds Tryz.pinned (OpenSpec.ofChange roadsBytesSpec)

/-- ITS FALSE NEIGHBOUR: 'it returns false'. Refute it at one input. -/
def roadsBytesWrong : ChangeSpec := { name := "roadsBytes", fn := fun _ => fun
  | [d1, d2, d3] => { results := [.lit (.bool false)], args := [d1, d2, d3] }
  | _ => none }
def RoadsBytesWrongFalsely : Prop := roadsBytesRow.holds Tryz.pinned (OpenSpec.ofChange roadsBytesWrong)

/-- 'kerbstonelaw03.RoadsSignals': WHATEVER THE INPUT: true; the input reads as it did. -/
def roadsSignalsSpec : ChangeSpec := { name := "roadsSignals", fn := fun _ => fun
  | [d1, d2, d3, d4, d5] => { results := [.lit (.bool true)], args := [d1, d2, d3, d4, d5] }
  | _ => none }
def roadsSignalsRow : OpenClaim := { program := "ytimbepcdlehjjaagreat", sum := "c3e0a1ae0afc99af3edc74c61f01bdf420456e08cd085161567a4e9930e02534", func := "kerbstone/kerbstonelaw03.RoadsSignals", spec := "roadsSignals", unfollowed := true, recurses := true, apart := false }
def RoadsSignalsSaid : Prop := roadsSignalsRow.holds Tryz.pinned (OpenSpec.ofChange roadsSignalsSpec)

/-- ITS FALSE NEIGHBOUR: 'it returns false'. Refute it at one input. -/
def roadsSignalsWrong : ChangeSpec := { name := "roadsSignals", fn := fun _ => fun
  | [d1, d2, d3, d4, d5] => { results := [.lit (.bool false)], args := [d1, d2, d3, d4, d5] }
  | _ => none }
def RoadsSignalsWrongFalsely : Prop := roadsSignalsRow.holds Tryz.pinned (OpenSpec.ofChange roadsSignalsWrong)

/-- 'kerbstonelaw03.RoadsKnown': WHATEVER THE INPUT: true; the input reads as it did. -/
def roadsKnownSpec : ChangeSpec := { name := "roadsKnown", fn := fun _ => fun
  | [] => { results := [.lit (.bool true)], args := [] }
  | _ => none }
def roadsKnownRow : OpenClaim := { program := "ytimbepcdlehjjaagreat", sum := "c3e0a1ae0afc99af3edc74c61f01bdf420456e08cd085161567a4e9930e02534", func := "kerbstone/kerbstonelaw03.RoadsKnown", spec := "roadsKnown", unfollowed := true, recurses := true, apart := false }
def RoadsKnownSaid : Prop := roadsKnownRow.holds Tryz.pinned (OpenSpec.ofChange roadsKnownSpec)

/-- ITS FALSE NEIGHBOUR: 'it returns false'. Refute it at one input. -/
def roadsKnownWrong : ChangeSpec := { name := "roadsKnown", fn := fun _ => fun
  | [] => { results := [.lit (.bool false)], args := [] }
  | _ => none }
def RoadsKnownWrongFalsely : Prop := roadsKnownRow.holds Tryz.pinned (OpenSpec.ofChange roadsKnownWrong)

/- THE SECOND FORM. 'bulk': how many values and letters a reading holds, each counted each time it is reached (what is shared counts as often as it is met; a slice's spare places count too). A statement '..UptoSaid' is the law's where the arguments, and the package variables that the reading takes, are together of bulk at most 1048576: NARROWER than '..Said'. Prove '..Said' where nothing that the law and all that it calls make is longer than what came in: it says more and counts as full. Else prove '..UptoSaid'. A law counts once. -/
mutual
def uptoBulk {H : Type} : DataW H → Nat
  | .lit (.string bytes) => bytes.length + 1
  | .lit _ => 1
  | .nil => 1
  | .ptr d => uptoBulk d + 1
  | .slice elems spare => uptoBulkAll elems + uptoBulkAll spare + 1
  | .agg parts => uptoBulkAll parts + 1
  | .iface _ d => uptoBulk d + 1
  | .map entries => uptoBulkEntries entries + 1
  | .held _ => 1
def uptoBulkAll {H : Type} : List (DataW H) → Nat
  | [] => 0
  | d :: r => uptoBulk d + uptoBulkAll r
def uptoBulkEntries {H : Type} : List (Lit × DataW H) → Nat
  | [] => 0
  | x :: r => uptoBulkEntry x + uptoBulkEntries r
def uptoBulkEntry {H : Type} : Lit × DataW H → Nat
  | (.string bytes, d) => bytes.length + uptoBulk d + 1
  | (_, d) => uptoBulk d + 1
 end
def uptoSmall : (H : Type) → List (DataW H) → Bool := fun _ ds => decide (uptoBulkAll ds ≤ 1048576)
def OpenSpec.upto (s : _root_.Go.ChangeSpec) : _root_.Go.OpenSpec := { _root_.Go.OpenSpec.ofChange s with cond := some uptoSmall }

/-- 'kerbstonelaw03.RoadsChecks', WHERE WHAT IT READS IS OF BULK AT MOST 1048576: true; the input reads as it did. -/
def roadsChecksUptoRow : OpenClaim := { program := "ytimbepcdlehjjaagreat", sum := "c3e0a1ae0afc99af3edc74c61f01bdf420456e08cd085161567a4e9930e02534", func := "kerbstone/kerbstonelaw03.RoadsChecks", spec := "roadsChecks", unfollowed := true, recurses := true, apart := false, narrowed := true }
def RoadsChecksUptoSaid : Prop := roadsChecksUptoRow.holds Tryz.pinned (OpenSpec.upto roadsChecksSpec)

/-- 'kerbstonelaw03.RoadsApplies', WHERE WHAT IT READS IS OF BULK AT MOST 1048576: true; the input reads as it did. -/
def roadsAppliesUptoRow : OpenClaim := { program := "ytimbepcdlehjjaagreat", sum := "c3e0a1ae0afc99af3edc74c61f01bdf420456e08cd085161567a4e9930e02534", func := "kerbstone/kerbstonelaw03.RoadsApplies", spec := "roadsApplies", unfollowed := true, recurses := true, apart := false, narrowed := true }
def RoadsAppliesUptoSaid : Prop := roadsAppliesUptoRow.holds Tryz.pinned (OpenSpec.upto roadsAppliesSpec)

/-- 'kerbstonelaw03.RoadsDiffs', WHERE WHAT IT READS IS OF BULK AT MOST 1048576: true; the input reads as it did. -/
def roadsDiffsUptoRow : OpenClaim := { program := "ytimbepcdlehjjaagreat", sum := "c3e0a1ae0afc99af3edc74c61f01bdf420456e08cd085161567a4e9930e02534", func := "kerbstone/kerbstonelaw03.RoadsDiffs", spec := "roadsDiffs", unfollowed := true, recurses := true, apart := false, narrowed := true }
def RoadsDiffsUptoSaid : Prop := roadsDiffsUptoRow.holds Tryz.pinned (OpenSpec.upto roadsDiffsSpec)

/-- 'kerbstonelaw03.RoadsClashes', WHERE WHAT IT READS IS OF BULK AT MOST 1048576: true; the input reads as it did. -/
def roadsClashesUptoRow : OpenClaim := { program := "ytimbepcdlehjjaagreat", sum := "c3e0a1ae0afc99af3edc74c61f01bdf420456e08cd085161567a4e9930e02534", func := "kerbstone/kerbstonelaw03.RoadsClashes", spec := "roadsClashes", unfollowed := true, recurses := true, apart := false, narrowed := true }
def RoadsClashesUptoSaid : Prop := roadsClashesUptoRow.holds Tryz.pinned (OpenSpec.upto roadsClashesSpec)

/-- 'kerbstonelaw03.RoadsBack', WHERE WHAT IT READS IS OF BULK AT MOST 1048576: true; the input reads as it did. -/
def roadsBackUptoRow : OpenClaim := { program := "ytimbepcdlehjjaagreat", sum := "c3e0a1ae0afc99af3edc74c61f01bdf420456e08cd085161567a4e9930e02534", func := "kerbstone/kerbstonelaw03.RoadsBack", spec := "roadsBack", unfollowed := true, recurses := true, apart := false, narrowed := true }
def RoadsBackUptoSaid : Prop := roadsBackUptoRow.holds Tryz.pinned (OpenSpec.upto roadsBackSpec)

/-- 'kerbstonelaw03.RoadsPatches', WHERE WHAT IT READS IS OF BULK AT MOST 1048576: true; the input reads as it did. -/
def roadsPatchesUptoRow : OpenClaim := { program := "ytimbepcdlehjjaagreat", sum := "c3e0a1ae0afc99af3edc74c61f01bdf420456e08cd085161567a4e9930e02534", func := "kerbstone/kerbstonelaw03.RoadsPatches", spec := "roadsPatches", unfollowed := true, recurses := true, apart := false, narrowed := true }
def RoadsPatchesUptoSaid : Prop := roadsPatchesUptoRow.holds Tryz.pinned (OpenSpec.upto roadsPatchesSpec)

/-- 'kerbstonelaw03.RoadsRoutes', WHERE WHAT IT READS IS OF BULK AT MOST 1048576: true; the input reads as it did. -/
def roadsRoutesUptoRow : OpenClaim := { program := "ytimbepcdlehjjaagreat", sum := "c3e0a1ae0afc99af3edc74c61f01bdf420456e08cd085161567a4e9930e02534", func := "kerbstone/kerbstonelaw03.RoadsRoutes", spec := "roadsRoutes", unfollowed := true, recurses := true, apart := false, narrowed := true }
def RoadsRoutesUptoSaid : Prop := roadsRoutesUptoRow.holds Tryz.pinned (OpenSpec.upto roadsRoutesSpec)

/-- 'kerbstonelaw03.RoadsBytes', WHERE WHAT IT READS IS OF BULK AT MOST 1048576: true; the input reads as it did. -/
def roadsBytesUptoRow : OpenClaim := { program := "ytimbepcdlehjjaagreat", sum := "c3e0a1ae0afc99af3edc74c61f01bdf420456e08cd085161567a4e9930e02534", func := "kerbstone/kerbstonelaw03.RoadsBytes", spec := "roadsBytes", unfollowed := true, recurses := true, apart := false, narrowed := true }
def RoadsBytesUptoSaid : Prop := roadsBytesUptoRow.holds Tryz.pinned (OpenSpec.upto roadsBytesSpec)

/-- 'kerbstonelaw03.RoadsSignals', WHERE WHAT IT READS IS OF BULK AT MOST 1048576: true; the input reads as it did. -/
def roadsSignalsUptoRow : OpenClaim := { program := "ytimbepcdlehjjaagreat", sum := "c3e0a1ae0afc99af3edc74c61f01bdf420456e08cd085161567a4e9930e02534", func := "kerbstone/kerbstonelaw03.RoadsSignals", spec := "roadsSignals", unfollowed := true, recurses := true, apart := false, narrowed := true }
def RoadsSignalsUptoSaid : Prop := roadsSignalsUptoRow.holds Tryz.pinned (OpenSpec.upto roadsSignalsSpec)

/-- 'kerbstonelaw03.RoadsKnown', WHERE WHAT IT READS IS OF BULK AT MOST 1048576: true; the input reads as it did. -/
def roadsKnownUptoRow : OpenClaim := { program := "ytimbepcdlehjjaagreat", sum := "c3e0a1ae0afc99af3edc74c61f01bdf420456e08cd085161567a4e9930e02534", func := "kerbstone/kerbstonelaw03.RoadsKnown", spec := "roadsKnown", unfollowed := true, recurses := true, apart := false, narrowed := true }
def RoadsKnownUptoSaid : Prop := roadsKnownUptoRow.holds Tryz.pinned (OpenSpec.upto roadsKnownSpec)

end Rows
end Go.Proofs.YtimbepcdlehjjaaGreat
