/-
  No cell of these rows narrows 'for every input' (looked for: loops, veiled, ifaces, maps, wideKeys, modest, calm, conditions, laid).
  DERIVED. THE GIVEN ROWS OF THIS SEAT. 6 by the template 'for every input the law returns true; each argument reads behind the call as it read before'; 0 by the template 'total and deterministic' (their statements: YtimbepcdlehjjaaTotals.lean).
  GIVEN WITH THE SEED: the statements are not yours to turn. If you find one false, say at which input.
  Laid BY PROGRAM, IN A SANDBOX (cutbox-rows.mjs): the forced cells as the released guide's own fill.sh prints them over the translation 9bb73283203d3239… (all of the seat's roots in one cut). By AI agents, Wed Nov 11 2026. No macro, syntax, notation, axiom, sorry.
-/
import Derived.Test.YtimbepcdlehjjaaChecked
import GoSem.Claim
import GoSem.ClaimJoined
import GoSem.ClaimMapViews
import Derived.JoinedTies
import Derived.KernelRfl
namespace Go.Proofs.Ytimbepcdlehjjaa
/- THE CELL 'sum', in the pinned program and in every row, IS THE sha256 OF THE DUMP (.gsa) THAT YtimbepcdlehjjaaProg.lean LOADS. Nothing in Lean hashes anything: it is a label: what it is worth is what the hold of that sum in a sandbox is worth. -/
noncomputable def Try.pinned : Pinned := { name := "ytimbepcdlehjjaa", sum := "9bb73283203d323980f4415f3334236a529b305dee030d5099ed65fa9d583227", checked := Try.checked }
namespace Rows
def none {H : Type} : Left H := { results := [], args := [] }

/-- 'kerbstonelaw03.RoadsWorks': WHATEVER THE INPUT: true; the input reads as it did. -/
def roadsWorksSpec : ChangeSpec := { name := "roadsWorks", fn := fun _ => fun
  | [d1, d2, d3, d4] => { results := [.lit (.bool true)], args := [d1, d2, d3, d4] }
  | _ => none }
def roadsWorksRow : OpenClaim := { program := "ytimbepcdlehjjaa", sum := "9bb73283203d323980f4415f3334236a529b305dee030d5099ed65fa9d583227", func := "kerbstone/kerbstonelaw03.RoadsWorks", spec := "roadsWorks", unfollowed := true, recurses := true, apart := false }
def RoadsWorksSaid : Prop := roadsWorksRow.holds Try.pinned (OpenSpec.ofChange roadsWorksSpec)

/-- ITS FALSE NEIGHBOUR: 'it returns false'. Refute it at one input. -/
def roadsWorksWrong : ChangeSpec := { name := "roadsWorks", fn := fun _ => fun
  | [d1, d2, d3, d4] => { results := [.lit (.bool false)], args := [d1, d2, d3, d4] }
  | _ => none }
def RoadsWorksWrongFalsely : Prop := roadsWorksRow.holds Try.pinned (OpenSpec.ofChange roadsWorksWrong)

/-- 'kerbstonelaw03.RoadsEntries': WHATEVER THE INPUT: true; the input reads as it did. -/
def roadsEntriesSpec : ChangeSpec := { name := "roadsEntries", fn := fun _ => fun
  | [d1, d2, d3] => { results := [.lit (.bool true)], args := [d1, d2, d3] }
  | _ => none }
def roadsEntriesRow : OpenClaim := { program := "ytimbepcdlehjjaa", sum := "9bb73283203d323980f4415f3334236a529b305dee030d5099ed65fa9d583227", func := "kerbstone/kerbstonelaw03.RoadsEntries", spec := "roadsEntries", unfollowed := true, recurses := true, apart := false }
def RoadsEntriesSaid : Prop := roadsEntriesRow.holds Try.pinned (OpenSpec.ofChange roadsEntriesSpec)

/-- ITS FALSE NEIGHBOUR: 'it returns false'. Refute it at one input. -/
def roadsEntriesWrong : ChangeSpec := { name := "roadsEntries", fn := fun _ => fun
  | [d1, d2, d3] => { results := [.lit (.bool false)], args := [d1, d2, d3] }
  | _ => none }
def RoadsEntriesWrongFalsely : Prop := roadsEntriesRow.holds Try.pinned (OpenSpec.ofChange roadsEntriesWrong)

/-- 'kerbstonelaw03.RoadsLeads': WHATEVER THE INPUT: true; the input reads as it did. -/
def roadsLeadsSpec : ChangeSpec := { name := "roadsLeads", fn := fun _ => fun
  | [d1, d2, d3, d4] => { results := [.lit (.bool true)], args := [d1, d2, d3, d4] }
  | _ => none }
def roadsLeadsRow : OpenClaim := { program := "ytimbepcdlehjjaa", sum := "9bb73283203d323980f4415f3334236a529b305dee030d5099ed65fa9d583227", func := "kerbstone/kerbstonelaw03.RoadsLeads", spec := "roadsLeads", unfollowed := true, recurses := true, apart := false }
def RoadsLeadsSaid : Prop := roadsLeadsRow.holds Try.pinned (OpenSpec.ofChange roadsLeadsSpec)

/-- ITS FALSE NEIGHBOUR: 'it returns false'. Refute it at one input. -/
def roadsLeadsWrong : ChangeSpec := { name := "roadsLeads", fn := fun _ => fun
  | [d1, d2, d3, d4] => { results := [.lit (.bool false)], args := [d1, d2, d3, d4] }
  | _ => none }
def RoadsLeadsWrongFalsely : Prop := roadsLeadsRow.holds Try.pinned (OpenSpec.ofChange roadsLeadsWrong)

/-- 'kerbstonelaw03.RoadsLanes': WHATEVER THE INPUT: true; the input reads as it did. -/
def roadsLanesSpec : ChangeSpec := { name := "roadsLanes", fn := fun _ => fun
  | [d1, d2, d3, d4, d5] => { results := [.lit (.bool true)], args := [d1, d2, d3, d4, d5] }
  | _ => none }
def roadsLanesRow : OpenClaim := { program := "ytimbepcdlehjjaa", sum := "9bb73283203d323980f4415f3334236a529b305dee030d5099ed65fa9d583227", func := "kerbstone/kerbstonelaw03.RoadsLanes", spec := "roadsLanes", unfollowed := true, recurses := true, apart := false }
def RoadsLanesSaid : Prop := roadsLanesRow.holds Try.pinned (OpenSpec.ofChange roadsLanesSpec)

/-- ITS FALSE NEIGHBOUR: 'it returns false'. Refute it at one input. -/
def roadsLanesWrong : ChangeSpec := { name := "roadsLanes", fn := fun _ => fun
  | [d1, d2, d3, d4, d5] => { results := [.lit (.bool false)], args := [d1, d2, d3, d4, d5] }
  | _ => none }
def RoadsLanesWrongFalsely : Prop := roadsLanesRow.holds Try.pinned (OpenSpec.ofChange roadsLanesWrong)

/-- 'kerbstonelaw03.RoadsPlaces': WHATEVER THE INPUT: true; the input reads as it did. -/
def roadsPlacesSpec : ChangeSpec := { name := "roadsPlaces", fn := fun _ => fun
  | [d1, d2, d3] => { results := [.lit (.bool true)], args := [d1, d2, d3] }
  | _ => none }
def roadsPlacesRow : OpenClaim := { program := "ytimbepcdlehjjaa", sum := "9bb73283203d323980f4415f3334236a529b305dee030d5099ed65fa9d583227", func := "kerbstone/kerbstonelaw03.RoadsPlaces", spec := "roadsPlaces", unfollowed := true, recurses := true, apart := false }
def RoadsPlacesSaid : Prop := roadsPlacesRow.holds Try.pinned (OpenSpec.ofChange roadsPlacesSpec)

/-- ITS FALSE NEIGHBOUR: 'it returns false'. Refute it at one input. -/
def roadsPlacesWrong : ChangeSpec := { name := "roadsPlaces", fn := fun _ => fun
  | [d1, d2, d3] => { results := [.lit (.bool false)], args := [d1, d2, d3] }
  | _ => none }
def RoadsPlacesWrongFalsely : Prop := roadsPlacesRow.holds Try.pinned (OpenSpec.ofChange roadsPlacesWrong)

/-- 'kerbstonelaw03.RoadsGreens': WHATEVER THE INPUT: true; the input reads as it did. -/
def roadsGreensSpec : ChangeSpec := { name := "roadsGreens", fn := fun _ => fun
  | [d1, d2, d3] => { results := [.lit (.bool true)], args := [d1, d2, d3] }
  | _ => none }
def roadsGreensRow : OpenClaim := { program := "ytimbepcdlehjjaa", sum := "9bb73283203d323980f4415f3334236a529b305dee030d5099ed65fa9d583227", func := "kerbstone/kerbstonelaw03.RoadsGreens", spec := "roadsGreens", unfollowed := true, recurses := true, apart := false }
def RoadsGreensSaid : Prop := roadsGreensRow.holds Try.pinned (OpenSpec.ofChange roadsGreensSpec)

/-- ITS FALSE NEIGHBOUR: 'it returns false'. Refute it at one input. -/
def roadsGreensWrong : ChangeSpec := { name := "roadsGreens", fn := fun _ => fun
  | [d1, d2, d3] => { results := [.lit (.bool false)], args := [d1, d2, d3] }
  | _ => none }
def RoadsGreensWrongFalsely : Prop := roadsGreensRow.holds Try.pinned (OpenSpec.ofChange roadsGreensWrong)

/- THE SECOND FORM. 'bulk': how many values and letters a reading holds, each counted each time it is reached (what is shared counts as often as it is met; a slice's spare places count too). A statement '..UptoSaid' is the law's where the arguments, and the package variables that the reading takes, are together of bulk at most 1048576: NARROWER than '..Said'. Prove '..Said' where nothing that the law and all that it calls make is longer than what came in: it says more and counts as full. Else prove '..UptoSaid'. A law counts once. -/
mutual
def uptoBulk {H : Type} : DataW H → Nat
  | .lit (.string bytes) => bytes.length + 1
  | .lit _ => 1
  | .nil => 1
  | .ptr d => uptoBulk d + 1
  | .slice elems spare => uptoBulkAll elems + uptoBulkAll spare + 1
  | .agg parts => uptoBulkAll parts + 1
  | .iface _ d => uptoBulk d + 1
  | .map entries => uptoBulkEntries entries + 1
  | .held _ => 1
def uptoBulkAll {H : Type} : List (DataW H) → Nat
  | [] => 0
  | d :: r => uptoBulk d + uptoBulkAll r
def uptoBulkEntries {H : Type} : List (Lit × DataW H) → Nat
  | [] => 0
  | x :: r => uptoBulkEntry x + uptoBulkEntries r
def uptoBulkEntry {H : Type} : Lit × DataW H → Nat
  | (.string bytes, d) => bytes.length + uptoBulk d + 1
  | (_, d) => uptoBulk d + 1
 end
def uptoSmall : (H : Type) → List (DataW H) → Bool := fun _ ds => decide (uptoBulkAll ds ≤ 1048576)
def OpenSpec.upto (s : _root_.Go.ChangeSpec) : _root_.Go.OpenSpec := { _root_.Go.OpenSpec.ofChange s with cond := some uptoSmall }

/-- 'kerbstonelaw03.RoadsWorks', WHERE WHAT IT READS IS OF BULK AT MOST 1048576: true; the input reads as it did. -/
def roadsWorksUptoRow : OpenClaim := { program := "ytimbepcdlehjjaa", sum := "9bb73283203d323980f4415f3334236a529b305dee030d5099ed65fa9d583227", func := "kerbstone/kerbstonelaw03.RoadsWorks", spec := "roadsWorks", unfollowed := true, recurses := true, apart := false, narrowed := true }
def RoadsWorksUptoSaid : Prop := roadsWorksUptoRow.holds Try.pinned (OpenSpec.upto roadsWorksSpec)

/-- 'kerbstonelaw03.RoadsEntries', WHERE WHAT IT READS IS OF BULK AT MOST 1048576: true; the input reads as it did. -/
def roadsEntriesUptoRow : OpenClaim := { program := "ytimbepcdlehjjaa", sum := "9bb73283203d323980f4415f3334236a529b305dee030d5099ed65fa9d583227", func := "kerbstone/kerbstonelaw03.RoadsEntries", spec := "roadsEntries", unfollowed := true, recurses := true, apart := false, narrowed := true }
def RoadsEntriesUptoSaid : Prop := roadsEntriesUptoRow.holds Try.pinned (OpenSpec.upto roadsEntriesSpec)

/-- 'kerbstonelaw03.RoadsLeads', WHERE WHAT IT READS IS OF BULK AT MOST 1048576: true; the input reads as it did. -/
def roadsLeadsUptoRow : OpenClaim := { program := "ytimbepcdlehjjaa", sum := "9bb73283203d323980f4415f3334236a529b305dee030d5099ed65fa9d583227", func := "kerbstone/kerbstonelaw03.RoadsLeads", spec := "roadsLeads", unfollowed := true, recurses := true, apart := false, narrowed := true }
def RoadsLeadsUptoSaid : Prop := roadsLeadsUptoRow.holds Try.pinned (OpenSpec.upto roadsLeadsSpec)

/-- 'kerbstonelaw03.RoadsLanes', WHERE WHAT IT READS IS OF BULK AT MOST 1048576: true; the input reads as it did. -/
def roadsLanesUptoRow : OpenClaim := { program := "ytimbepcdlehjjaa", sum := "9bb73283203d323980f4415f3334236a529b305dee030d5099ed65fa9d583227", func := "kerbstone/kerbstonelaw03.RoadsLanes", spec := "roadsLanes", unfollowed := true, recurses := true, apart := false, narrowed := true }
def RoadsLanesUptoSaid : Prop := roadsLanesUptoRow.holds Try.pinned (OpenSpec.upto roadsLanesSpec)

/-- 'kerbstonelaw03.RoadsPlaces', WHERE WHAT IT READS IS OF BULK AT MOST 1048576: true; the input reads as it did. -/
def roadsPlacesUptoRow : OpenClaim := { program := "ytimbepcdlehjjaa", sum := "9bb73283203d323980f4415f3334236a529b305dee030d5099ed65fa9d583227", func := "kerbstone/kerbstonelaw03.RoadsPlaces", spec := "roadsPlaces", unfollowed := true, recurses := true, apart := false, narrowed := true }
def RoadsPlacesUptoSaid : Prop := roadsPlacesUptoRow.holds Try.pinned (OpenSpec.upto roadsPlacesSpec)

/-- 'kerbstonelaw03.RoadsGreens', WHERE WHAT IT READS IS OF BULK AT MOST 1048576: true; the input reads as it did. -/
def roadsGreensUptoRow : OpenClaim := { program := "ytimbepcdlehjjaa", sum := "9bb73283203d323980f4415f3334236a529b305dee030d5099ed65fa9d583227", func := "kerbstone/kerbstonelaw03.RoadsGreens", spec := "roadsGreens", unfollowed := true, recurses := true, apart := false, narrowed := true }
def RoadsGreensUptoSaid : Prop := roadsGreensUptoRow.holds Try.pinned (OpenSpec.upto roadsGreensSpec)

end Rows
end Go.Proofs.Ytimbepcdlehjjaa
