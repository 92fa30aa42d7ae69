/-
  No cell of these rows narrows 'for every input' (looked for: loops, veiled, ifaces, maps, wideKeys, modest, calm, conditions, laid).
  DERIVED. THE GIVEN ROWS OF THIS SEAT. 12 by the template 'for every input the law returns true; each argument reads behind the call as it read before'; 0 by the template 'total and deterministic' (their statements: YtdkgjoilcfoclaaTotals.lean).
  GIVEN WITH THE SEED: the statements are not yours to turn. If you find one false, say at which input.
  Laid BY PROGRAM, IN A SANDBOX (cutbox-rows.mjs): the forced cells as the released guide's own fill.sh prints them over the translation cc9520d4ba9e8cb5… (all of the seat's roots in one cut). By AI agents, Wed Nov 11 2026. No macro, syntax, notation, axiom, sorry.
-/
import Derived.Test.YtdkgjoilcfoclaaChecked
import GoSem.Claim
import GoSem.ClaimJoined
import GoSem.ClaimMapViews
import Derived.JoinedTies
import Derived.KernelRfl
namespace Go.Proofs.Ytdkgjoilcfoclaa
/- THE CELL 'sum', in the pinned program and in every row, IS THE sha256 OF THE DUMP (.gsa) THAT YtdkgjoilcfoclaaProg.lean LOADS. Nothing in Lean hashes anything: it is a label: what it is worth is what the hold of that sum in a sandbox is worth. -/
noncomputable def Try.pinned : Pinned := { name := "ytdkgjoilcfoclaa", sum := "cc9520d4ba9e8cb559aa407e9a04f6649643d598c8995bba42160affd909f139", checked := Try.checked }
namespace Rows
def none {H : Type} : Left H := { results := [], args := [] }

/-- 'kerbstonelaw09.ConvoyGuesses': WHATEVER THE INPUT: true; the input reads as it did. -/
def convoyGuessesSpec : ChangeSpec := { name := "convoyGuesses", fn := fun _ => fun
  | [d1, d2, d3, d4, d5, d6, d7] => { results := [.lit (.bool true)], args := [d1, d2, d3, d4, d5, d6, d7] }
  | _ => none }
def convoyGuessesRow : OpenClaim := { program := "ytdkgjoilcfoclaa", sum := "cc9520d4ba9e8cb559aa407e9a04f6649643d598c8995bba42160affd909f139", func := "kerbstone/kerbstonelaw09.ConvoyGuesses", spec := "convoyGuesses", unfollowed := true, recurses := true, apart := false }
def ConvoyGuessesSaid : Prop := convoyGuessesRow.holds Try.pinned (OpenSpec.ofChange convoyGuessesSpec)

/-- ITS FALSE NEIGHBOUR: 'it returns false'. Refute it at one input. -/
def convoyGuessesWrong : ChangeSpec := { name := "convoyGuesses", fn := fun _ => fun
  | [d1, d2, d3, d4, d5, d6, d7] => { results := [.lit (.bool false)], args := [d1, d2, d3, d4, d5, d6, d7] }
  | _ => none }
def ConvoyGuessesWrongFalsely : Prop := convoyGuessesRow.holds Try.pinned (OpenSpec.ofChange convoyGuessesWrong)

/-- 'kerbstonelaw09.ConvoySafe': WHATEVER THE INPUT: true; the input reads as it did. -/
def convoySafeSpec : ChangeSpec := { name := "convoySafe", fn := fun _ => fun
  | [d1, d2, d3, d4, d5, d6, d7] => { results := [.lit (.bool true)], args := [d1, d2, d3, d4, d5, d6, d7] }
  | _ => none }
def convoySafeRow : OpenClaim := { program := "ytdkgjoilcfoclaa", sum := "cc9520d4ba9e8cb559aa407e9a04f6649643d598c8995bba42160affd909f139", func := "kerbstone/kerbstonelaw09.ConvoySafe", spec := "convoySafe", unfollowed := true, recurses := true, apart := false }
def ConvoySafeSaid : Prop := convoySafeRow.holds Try.pinned (OpenSpec.ofChange convoySafeSpec)

/-- ITS FALSE NEIGHBOUR: 'it returns false'. Refute it at one input. -/
def convoySafeWrong : ChangeSpec := { name := "convoySafe", fn := fun _ => fun
  | [d1, d2, d3, d4, d5, d6, d7] => { results := [.lit (.bool false)], args := [d1, d2, d3, d4, d5, d6, d7] }
  | _ => none }
def ConvoySafeWrongFalsely : Prop := convoySafeRow.holds Try.pinned (OpenSpec.ofChange convoySafeWrong)

/-- 'kerbstonelaw09.ConvoyLooks': WHATEVER THE INPUT: true; the input reads as it did. -/
def convoyLooksSpec : ChangeSpec := { name := "convoyLooks", fn := fun _ => fun
  | [d1, d2, d3, d4] => { results := [.lit (.bool true)], args := [d1, d2, d3, d4] }
  | _ => none }
def convoyLooksRow : OpenClaim := { program := "ytdkgjoilcfoclaa", sum := "cc9520d4ba9e8cb559aa407e9a04f6649643d598c8995bba42160affd909f139", func := "kerbstone/kerbstonelaw09.ConvoyLooks", spec := "convoyLooks", unfollowed := true, recurses := true, apart := false }
def ConvoyLooksSaid : Prop := convoyLooksRow.holds Try.pinned (OpenSpec.ofChange convoyLooksSpec)

/-- ITS FALSE NEIGHBOUR: 'it returns false'. Refute it at one input. -/
def convoyLooksWrong : ChangeSpec := { name := "convoyLooks", fn := fun _ => fun
  | [d1, d2, d3, d4] => { results := [.lit (.bool false)], args := [d1, d2, d3, d4] }
  | _ => none }
def ConvoyLooksWrongFalsely : Prop := convoyLooksRow.holds Try.pinned (OpenSpec.ofChange convoyLooksWrong)

/-- 'kerbstonelaw09.ConvoyChecks': WHATEVER THE INPUT: true; the input reads as it did. -/
def convoyChecksSpec : ChangeSpec := { name := "convoyChecks", fn := fun _ => fun
  | [d1, d2] => { results := [.lit (.bool true)], args := [d1, d2] }
  | _ => none }
def convoyChecksRow : OpenClaim := { program := "ytdkgjoilcfoclaa", sum := "cc9520d4ba9e8cb559aa407e9a04f6649643d598c8995bba42160affd909f139", func := "kerbstone/kerbstonelaw09.ConvoyChecks", spec := "convoyChecks", unfollowed := true, recurses := true, apart := false }
def ConvoyChecksSaid : Prop := convoyChecksRow.holds Try.pinned (OpenSpec.ofChange convoyChecksSpec)

/-- ITS FALSE NEIGHBOUR: 'it returns false'. Refute it at one input. -/
def convoyChecksWrong : ChangeSpec := { name := "convoyChecks", fn := fun _ => fun
  | [d1, d2] => { results := [.lit (.bool false)], args := [d1, d2] }
  | _ => none }
def ConvoyChecksWrongFalsely : Prop := convoyChecksRow.holds Try.pinned (OpenSpec.ofChange convoyChecksWrong)

/-- 'kerbstonelaw09.ConvoyMade': WHATEVER THE INPUT: true; the input reads as it did. -/
def convoyMadeSpec : ChangeSpec := { name := "convoyMade", fn := fun _ => fun
  | [d1, d2, d3, d4] => { results := [.lit (.bool true)], args := [d1, d2, d3, d4] }
  | _ => none }
def convoyMadeRow : OpenClaim := { program := "ytdkgjoilcfoclaa", sum := "cc9520d4ba9e8cb559aa407e9a04f6649643d598c8995bba42160affd909f139", func := "kerbstone/kerbstonelaw09.ConvoyMade", spec := "convoyMade", unfollowed := true, recurses := true, apart := false }
def ConvoyMadeSaid : Prop := convoyMadeRow.holds Try.pinned (OpenSpec.ofChange convoyMadeSpec)

/-- ITS FALSE NEIGHBOUR: 'it returns false'. Refute it at one input. -/
def convoyMadeWrong : ChangeSpec := { name := "convoyMade", fn := fun _ => fun
  | [d1, d2, d3, d4] => { results := [.lit (.bool false)], args := [d1, d2, d3, d4] }
  | _ => none }
def ConvoyMadeWrongFalsely : Prop := convoyMadeRow.holds Try.pinned (OpenSpec.ofChange convoyMadeWrong)

/-- 'kerbstonelaw09.ConvoyLies': WHATEVER THE INPUT: true; the input reads as it did. -/
def convoyLiesSpec : ChangeSpec := { name := "convoyLies", fn := fun _ => fun
  | [d1, d2, d3] => { results := [.lit (.bool true)], args := [d1, d2, d3] }
  | _ => none }
def convoyLiesRow : OpenClaim := { program := "ytdkgjoilcfoclaa", sum := "cc9520d4ba9e8cb559aa407e9a04f6649643d598c8995bba42160affd909f139", func := "kerbstone/kerbstonelaw09.ConvoyLies", spec := "convoyLies", inPlace := ["slices.overlaps[kerbstone/api.Mate]"], unfollowed := true, recurses := true, apart := false }
def ConvoyLiesSaid : Prop := convoyLiesRow.holds Try.pinned (OpenSpec.ofChange convoyLiesSpec)

/-- ITS FALSE NEIGHBOUR: 'it returns false'. Refute it at one input. -/
def convoyLiesWrong : ChangeSpec := { name := "convoyLies", fn := fun _ => fun
  | [d1, d2, d3] => { results := [.lit (.bool false)], args := [d1, d2, d3] }
  | _ => none }
def ConvoyLiesWrongFalsely : Prop := convoyLiesRow.holds Try.pinned (OpenSpec.ofChange convoyLiesWrong)

/-- 'kerbstonelaw09.ConvoyGaps': WHATEVER THE INPUT: true; the input reads as it did. -/
def convoyGapsSpec : ChangeSpec := { name := "convoyGaps", fn := fun _ => fun
  | [d1, d2] => { results := [.lit (.bool true)], args := [d1, d2] }
  | _ => none }
def convoyGapsRow : OpenClaim := { program := "ytdkgjoilcfoclaa", sum := "cc9520d4ba9e8cb559aa407e9a04f6649643d598c8995bba42160affd909f139", func := "kerbstone/kerbstonelaw09.ConvoyGaps", spec := "convoyGaps", inPlace := ["slices.overlaps[kerbstone/api.Mate]"], unfollowed := true, recurses := true, apart := false }
def ConvoyGapsSaid : Prop := convoyGapsRow.holds Try.pinned (OpenSpec.ofChange convoyGapsSpec)

/-- ITS FALSE NEIGHBOUR: 'it returns false'. Refute it at one input. -/
def convoyGapsWrong : ChangeSpec := { name := "convoyGaps", fn := fun _ => fun
  | [d1, d2] => { results := [.lit (.bool false)], args := [d1, d2] }
  | _ => none }
def ConvoyGapsWrongFalsely : Prop := convoyGapsRow.holds Try.pinned (OpenSpec.ofChange convoyGapsWrong)

/-- 'kerbstonelaw09.ConvoyRamp': WHATEVER THE INPUT: true; the input reads as it did. -/
def convoyRampSpec : ChangeSpec := { name := "convoyRamp", fn := fun _ => fun
  | [d1, d2] => { results := [.lit (.bool true)], args := [d1, d2] }
  | _ => none }
def convoyRampRow : OpenClaim := { program := "ytdkgjoilcfoclaa", sum := "cc9520d4ba9e8cb559aa407e9a04f6649643d598c8995bba42160affd909f139", func := "kerbstone/kerbstonelaw09.ConvoyRamp", spec := "convoyRamp", inPlace := ["slices.overlaps[kerbstone/api.Mate]"], unfollowed := true, recurses := true, apart := false }
def ConvoyRampSaid : Prop := convoyRampRow.holds Try.pinned (OpenSpec.ofChange convoyRampSpec)

/-- ITS FALSE NEIGHBOUR: 'it returns false'. Refute it at one input. -/
def convoyRampWrong : ChangeSpec := { name := "convoyRamp", fn := fun _ => fun
  | [d1, d2] => { results := [.lit (.bool false)], args := [d1, d2] }
  | _ => none }
def ConvoyRampWrongFalsely : Prop := convoyRampRow.holds Try.pinned (OpenSpec.ofChange convoyRampWrong)

/-- 'kerbstonelaw09.ConvoyBounds': WHATEVER THE INPUT: true; the input reads as it did. -/
def convoyBoundsSpec : ChangeSpec := { name := "convoyBounds", fn := fun _ => fun
  | [d1, d2] => { results := [.lit (.bool true)], args := [d1, d2] }
  | _ => none }
def convoyBoundsRow : OpenClaim := { program := "ytdkgjoilcfoclaa", sum := "cc9520d4ba9e8cb559aa407e9a04f6649643d598c8995bba42160affd909f139", func := "kerbstone/kerbstonelaw09.ConvoyBounds", spec := "convoyBounds", inPlace := ["slices.overlaps[kerbstone/api.Mate]"], unfollowed := true, recurses := true, apart := false }
def ConvoyBoundsSaid : Prop := convoyBoundsRow.holds Try.pinned (OpenSpec.ofChange convoyBoundsSpec)

/-- ITS FALSE NEIGHBOUR: 'it returns false'. Refute it at one input. -/
def convoyBoundsWrong : ChangeSpec := { name := "convoyBounds", fn := fun _ => fun
  | [d1, d2] => { results := [.lit (.bool false)], args := [d1, d2] }
  | _ => none }
def ConvoyBoundsWrongFalsely : Prop := convoyBoundsRow.holds Try.pinned (OpenSpec.ofChange convoyBoundsWrong)

/-- 'kerbstonelaw09.ConvoyMore': WHATEVER THE INPUT: true; the input reads as it did. -/
def convoyMoreSpec : ChangeSpec := { name := "convoyMore", fn := fun _ => fun
  | [d1, d2] => { results := [.lit (.bool true)], args := [d1, d2] }
  | _ => none }
def convoyMoreRow : OpenClaim := { program := "ytdkgjoilcfoclaa", sum := "cc9520d4ba9e8cb559aa407e9a04f6649643d598c8995bba42160affd909f139", func := "kerbstone/kerbstonelaw09.ConvoyMore", spec := "convoyMore", inPlace := ["slices.overlaps[kerbstone/api.Mate]"], unfollowed := true, recurses := true, apart := false }
def ConvoyMoreSaid : Prop := convoyMoreRow.holds Try.pinned (OpenSpec.ofChange convoyMoreSpec)

/-- ITS FALSE NEIGHBOUR: 'it returns false'. Refute it at one input. -/
def convoyMoreWrong : ChangeSpec := { name := "convoyMore", fn := fun _ => fun
  | [d1, d2] => { results := [.lit (.bool false)], args := [d1, d2] }
  | _ => none }
def ConvoyMoreWrongFalsely : Prop := convoyMoreRow.holds Try.pinned (OpenSpec.ofChange convoyMoreWrong)

/-- 'kerbstonelaw09.ConvoyStands': WHATEVER THE INPUT: true; the input reads as it did. -/
def convoyStandsSpec : ChangeSpec := { name := "convoyStands", fn := fun _ => fun
  | [d1, d2] => { results := [.lit (.bool true)], args := [d1, d2] }
  | _ => none }
def convoyStandsRow : OpenClaim := { program := "ytdkgjoilcfoclaa", sum := "cc9520d4ba9e8cb559aa407e9a04f6649643d598c8995bba42160affd909f139", func := "kerbstone/kerbstonelaw09.ConvoyStands", spec := "convoyStands", inPlace := ["slices.overlaps[kerbstone/api.Mate]"], unfollowed := true, recurses := true, apart := false }
def ConvoyStandsSaid : Prop := convoyStandsRow.holds Try.pinned (OpenSpec.ofChange convoyStandsSpec)

/-- ITS FALSE NEIGHBOUR: 'it returns false'. Refute it at one input. -/
def convoyStandsWrong : ChangeSpec := { name := "convoyStands", fn := fun _ => fun
  | [d1, d2] => { results := [.lit (.bool false)], args := [d1, d2] }
  | _ => none }
def ConvoyStandsWrongFalsely : Prop := convoyStandsRow.holds Try.pinned (OpenSpec.ofChange convoyStandsWrong)

/-- 'kerbstonelaw09.ConvoyKnown': WHATEVER THE INPUT: true; the input reads as it did. -/
def convoyKnownSpec : ChangeSpec := { name := "convoyKnown", fn := fun _ => fun
  | [] => { results := [.lit (.bool true)], args := [] }
  | _ => none }
def convoyKnownRow : OpenClaim := { program := "ytdkgjoilcfoclaa", sum := "cc9520d4ba9e8cb559aa407e9a04f6649643d598c8995bba42160affd909f139", func := "kerbstone/kerbstonelaw09.ConvoyKnown", spec := "convoyKnown", inPlace := ["slices.overlaps[kerbstone/api.Mate]"], unfollowed := true, recurses := true, apart := false }
def ConvoyKnownSaid : Prop := convoyKnownRow.holds Try.pinned (OpenSpec.ofChange convoyKnownSpec)

/-- ITS FALSE NEIGHBOUR: 'it returns false'. Refute it at one input. -/
def convoyKnownWrong : ChangeSpec := { name := "convoyKnown", fn := fun _ => fun
  | [] => { results := [.lit (.bool false)], args := [] }
  | _ => none }
def ConvoyKnownWrongFalsely : Prop := convoyKnownRow.holds Try.pinned (OpenSpec.ofChange convoyKnownWrong)

/- THE SECOND FORM. 'bulk': how many values and letters a reading holds, each counted each time it is reached (what is shared counts as often as it is met; a slice's spare places count too). A statement '..UptoSaid' is the law's where the arguments, and the package variables that the reading takes, are together of bulk at most 1048576: NARROWER than '..Said'. Prove '..Said' where nothing that the law and all that it calls make is longer than what came in: it says more and counts as full. Else prove '..UptoSaid'. A law counts once. -/
mutual
def uptoBulk {H : Type} : DataW H → Nat
  | .lit (.string bytes) => bytes.length + 1
  | .lit _ => 1
  | .nil => 1
  | .ptr d => uptoBulk d + 1
  | .slice elems spare => uptoBulkAll elems + uptoBulkAll spare + 1
  | .agg parts => uptoBulkAll parts + 1
  | .iface _ d => uptoBulk d + 1
  | .map entries => uptoBulkEntries entries + 1
  | .held _ => 1
def uptoBulkAll {H : Type} : List (DataW H) → Nat
  | [] => 0
  | d :: r => uptoBulk d + uptoBulkAll r
def uptoBulkEntries {H : Type} : List (Lit × DataW H) → Nat
  | [] => 0
  | x :: r => uptoBulkEntry x + uptoBulkEntries r
def uptoBulkEntry {H : Type} : Lit × DataW H → Nat
  | (.string bytes, d) => bytes.length + uptoBulk d + 1
  | (_, d) => uptoBulk d + 1
 end
def uptoSmall : (H : Type) → List (DataW H) → Bool := fun _ ds => decide (uptoBulkAll ds ≤ 1048576)
def OpenSpec.upto (s : _root_.Go.ChangeSpec) : _root_.Go.OpenSpec := { _root_.Go.OpenSpec.ofChange s with cond := some uptoSmall }

/-- 'kerbstonelaw09.ConvoyGuesses', WHERE WHAT IT READS IS OF BULK AT MOST 1048576: true; the input reads as it did. -/
def convoyGuessesUptoRow : OpenClaim := { program := "ytdkgjoilcfoclaa", sum := "cc9520d4ba9e8cb559aa407e9a04f6649643d598c8995bba42160affd909f139", func := "kerbstone/kerbstonelaw09.ConvoyGuesses", spec := "convoyGuesses", unfollowed := true, recurses := true, apart := false, narrowed := true }
def ConvoyGuessesUptoSaid : Prop := convoyGuessesUptoRow.holds Try.pinned (OpenSpec.upto convoyGuessesSpec)

/-- 'kerbstonelaw09.ConvoySafe', WHERE WHAT IT READS IS OF BULK AT MOST 1048576: true; the input reads as it did. -/
def convoySafeUptoRow : OpenClaim := { program := "ytdkgjoilcfoclaa", sum := "cc9520d4ba9e8cb559aa407e9a04f6649643d598c8995bba42160affd909f139", func := "kerbstone/kerbstonelaw09.ConvoySafe", spec := "convoySafe", unfollowed := true, recurses := true, apart := false, narrowed := true }
def ConvoySafeUptoSaid : Prop := convoySafeUptoRow.holds Try.pinned (OpenSpec.upto convoySafeSpec)

/-- 'kerbstonelaw09.ConvoyLooks', WHERE WHAT IT READS IS OF BULK AT MOST 1048576: true; the input reads as it did. -/
def convoyLooksUptoRow : OpenClaim := { program := "ytdkgjoilcfoclaa", sum := "cc9520d4ba9e8cb559aa407e9a04f6649643d598c8995bba42160affd909f139", func := "kerbstone/kerbstonelaw09.ConvoyLooks", spec := "convoyLooks", unfollowed := true, recurses := true, apart := false, narrowed := true }
def ConvoyLooksUptoSaid : Prop := convoyLooksUptoRow.holds Try.pinned (OpenSpec.upto convoyLooksSpec)

/-- 'kerbstonelaw09.ConvoyChecks', WHERE WHAT IT READS IS OF BULK AT MOST 1048576: true; the input reads as it did. -/
def convoyChecksUptoRow : OpenClaim := { program := "ytdkgjoilcfoclaa", sum := "cc9520d4ba9e8cb559aa407e9a04f6649643d598c8995bba42160affd909f139", func := "kerbstone/kerbstonelaw09.ConvoyChecks", spec := "convoyChecks", unfollowed := true, recurses := true, apart := false, narrowed := true }
def ConvoyChecksUptoSaid : Prop := convoyChecksUptoRow.holds Try.pinned (OpenSpec.upto convoyChecksSpec)

/-- 'kerbstonelaw09.ConvoyMade', WHERE WHAT IT READS IS OF BULK AT MOST 1048576: true; the input reads as it did. -/
def convoyMadeUptoRow : OpenClaim := { program := "ytdkgjoilcfoclaa", sum := "cc9520d4ba9e8cb559aa407e9a04f6649643d598c8995bba42160affd909f139", func := "kerbstone/kerbstonelaw09.ConvoyMade", spec := "convoyMade", unfollowed := true, recurses := true, apart := false, narrowed := true }
def ConvoyMadeUptoSaid : Prop := convoyMadeUptoRow.holds Try.pinned (OpenSpec.upto convoyMadeSpec)

/-- 'kerbstonelaw09.ConvoyLies', WHERE WHAT IT READS IS OF BULK AT MOST 1048576: true; the input reads as it did. -/
def convoyLiesUptoRow : OpenClaim := { program := "ytdkgjoilcfoclaa", sum := "cc9520d4ba9e8cb559aa407e9a04f6649643d598c8995bba42160affd909f139", func := "kerbstone/kerbstonelaw09.ConvoyLies", spec := "convoyLies", inPlace := ["slices.overlaps[kerbstone/api.Mate]"], unfollowed := true, recurses := true, apart := false, narrowed := true }
def ConvoyLiesUptoSaid : Prop := convoyLiesUptoRow.holds Try.pinned (OpenSpec.upto convoyLiesSpec)

/-- 'kerbstonelaw09.ConvoyGaps', WHERE WHAT IT READS IS OF BULK AT MOST 1048576: true; the input reads as it did. -/
def convoyGapsUptoRow : OpenClaim := { program := "ytdkgjoilcfoclaa", sum := "cc9520d4ba9e8cb559aa407e9a04f6649643d598c8995bba42160affd909f139", func := "kerbstone/kerbstonelaw09.ConvoyGaps", spec := "convoyGaps", inPlace := ["slices.overlaps[kerbstone/api.Mate]"], unfollowed := true, recurses := true, apart := false, narrowed := true }
def ConvoyGapsUptoSaid : Prop := convoyGapsUptoRow.holds Try.pinned (OpenSpec.upto convoyGapsSpec)

/-- 'kerbstonelaw09.ConvoyRamp', WHERE WHAT IT READS IS OF BULK AT MOST 1048576: true; the input reads as it did. -/
def convoyRampUptoRow : OpenClaim := { program := "ytdkgjoilcfoclaa", sum := "cc9520d4ba9e8cb559aa407e9a04f6649643d598c8995bba42160affd909f139", func := "kerbstone/kerbstonelaw09.ConvoyRamp", spec := "convoyRamp", inPlace := ["slices.overlaps[kerbstone/api.Mate]"], unfollowed := true, recurses := true, apart := false, narrowed := true }
def ConvoyRampUptoSaid : Prop := convoyRampUptoRow.holds Try.pinned (OpenSpec.upto convoyRampSpec)

/-- 'kerbstonelaw09.ConvoyBounds', WHERE WHAT IT READS IS OF BULK AT MOST 1048576: true; the input reads as it did. -/
def convoyBoundsUptoRow : OpenClaim := { program := "ytdkgjoilcfoclaa", sum := "cc9520d4ba9e8cb559aa407e9a04f6649643d598c8995bba42160affd909f139", func := "kerbstone/kerbstonelaw09.ConvoyBounds", spec := "convoyBounds", inPlace := ["slices.overlaps[kerbstone/api.Mate]"], unfollowed := true, recurses := true, apart := false, narrowed := true }
def ConvoyBoundsUptoSaid : Prop := convoyBoundsUptoRow.holds Try.pinned (OpenSpec.upto convoyBoundsSpec)

/-- 'kerbstonelaw09.ConvoyMore', WHERE WHAT IT READS IS OF BULK AT MOST 1048576: true; the input reads as it did. -/
def convoyMoreUptoRow : OpenClaim := { program := "ytdkgjoilcfoclaa", sum := "cc9520d4ba9e8cb559aa407e9a04f6649643d598c8995bba42160affd909f139", func := "kerbstone/kerbstonelaw09.ConvoyMore", spec := "convoyMore", inPlace := ["slices.overlaps[kerbstone/api.Mate]"], unfollowed := true, recurses := true, apart := false, narrowed := true }
def ConvoyMoreUptoSaid : Prop := convoyMoreUptoRow.holds Try.pinned (OpenSpec.upto convoyMoreSpec)

/-- 'kerbstonelaw09.ConvoyStands', WHERE WHAT IT READS IS OF BULK AT MOST 1048576: true; the input reads as it did. -/
def convoyStandsUptoRow : OpenClaim := { program := "ytdkgjoilcfoclaa", sum := "cc9520d4ba9e8cb559aa407e9a04f6649643d598c8995bba42160affd909f139", func := "kerbstone/kerbstonelaw09.ConvoyStands", spec := "convoyStands", inPlace := ["slices.overlaps[kerbstone/api.Mate]"], unfollowed := true, recurses := true, apart := false, narrowed := true }
def ConvoyStandsUptoSaid : Prop := convoyStandsUptoRow.holds Try.pinned (OpenSpec.upto convoyStandsSpec)

/-- 'kerbstonelaw09.ConvoyKnown', WHERE WHAT IT READS IS OF BULK AT MOST 1048576: true; the input reads as it did. -/
def convoyKnownUptoRow : OpenClaim := { program := "ytdkgjoilcfoclaa", sum := "cc9520d4ba9e8cb559aa407e9a04f6649643d598c8995bba42160affd909f139", func := "kerbstone/kerbstonelaw09.ConvoyKnown", spec := "convoyKnown", inPlace := ["slices.overlaps[kerbstone/api.Mate]"], unfollowed := true, recurses := true, apart := false, narrowed := true }
def ConvoyKnownUptoSaid : Prop := convoyKnownUptoRow.holds Try.pinned (OpenSpec.upto convoyKnownSpec)

end Rows
end Go.Proofs.Ytdkgjoilcfoclaa
