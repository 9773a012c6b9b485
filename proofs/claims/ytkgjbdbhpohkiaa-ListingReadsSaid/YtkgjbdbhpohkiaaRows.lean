/-
  No cell of these rows narrows 'for every input' (looked for: loops, veiled, ifaces, maps, wideKeys, modest, calm, conditions, laid).
  DERIVED. THE GIVEN ROWS OF THIS SEAT. 4 by the template 'for every input the law returns true; each argument reads behind the call as it read before'; 0 by the template 'total and deterministic' (their statements: YtkgjbdbhpohkiaaTotals.lean).
  GIVEN WITH THE SEED: the statements are not yours to turn. If you find one false, say at which input.
  Laid BY PROGRAM, IN A SANDBOX (cutbox-rows.mjs): the forced cells as the released guide's own fill.sh prints them over the translation 12c532edaf780094… (all of the seat's roots in one cut). By AI agents, Wed Nov 11 2026. No macro, syntax, notation, axiom, sorry.
-/
import Derived.Test.YtkgjbdbhpohkiaaChecked
import GoSem.Claim
import GoSem.ClaimJoined
import GoSem.ClaimMapViews
import Derived.JoinedTies
import Derived.KernelRfl
namespace Go.Proofs.Ytkgjbdbhpohkiaa
/- THE CELL 'sum', in the pinned program and in every row, IS THE sha256 OF THE DUMP (.gsa) THAT YtkgjbdbhpohkiaaProg.lean LOADS. Nothing in Lean hashes anything: it is a label: what it is worth is what the hold of that sum in a sandbox is worth. -/
noncomputable def Try.pinned : Pinned := { name := "ytkgjbdbhpohkiaa", sum := "12c532edaf780094a2b7ef195ff6410df94d01c823b06317d90a850e447129db", checked := Try.checked }
namespace Rows
def none {H : Type} : Left H := { results := [], args := [] }

/-- 'turntablelaw37.ListingWrites': WHATEVER THE INPUT: true; the input reads as it did. -/
def listingWritesSpec : ChangeSpec := { name := "listingWrites", fn := fun _ => fun
  | [d1, d2] => { results := [.lit (.bool true)], args := [d1, d2] }
  | _ => none }
def listingWritesRow : OpenClaim := { program := "ytkgjbdbhpohkiaa", sum := "12c532edaf780094a2b7ef195ff6410df94d01c823b06317d90a850e447129db", func := "turntable/turntablelaw37.ListingWrites", spec := "listingWrites", inPlace := ["internal/abi.NoEscape", "internal/bytealg.MakeNoZero"], unfollowed := true, recurses := true, apart := false }
def ListingWritesSaid : Prop := listingWritesRow.holds Try.pinned (OpenSpec.ofChange listingWritesSpec)

/-- ITS FALSE NEIGHBOUR: 'it returns false'. Refute it at one input. -/
def listingWritesWrong : ChangeSpec := { name := "listingWrites", fn := fun _ => fun
  | [d1, d2] => { results := [.lit (.bool false)], args := [d1, d2] }
  | _ => none }
def ListingWritesWrongFalsely : Prop := listingWritesRow.holds Try.pinned (OpenSpec.ofChange listingWritesWrong)

/-- 'turntablelaw37.ListingReads': WHATEVER THE INPUT: true; the input reads as it did. -/
def listingReadsSpec : ChangeSpec := { name := "listingReads", fn := fun _ => fun
  | [d] => { results := [.lit (.bool true)], args := [d] }
  | _ => none }
def listingReadsRow : OpenClaim := { program := "ytkgjbdbhpohkiaa", sum := "12c532edaf780094a2b7ef195ff6410df94d01c823b06317d90a850e447129db", func := "turntable/turntablelaw37.ListingReads", spec := "listingReads", inPlace := ["internal/abi.NoEscape", "internal/bytealg.MakeNoZero"], unfollowed := true, recurses := true, apart := false }
def ListingReadsSaid : Prop := listingReadsRow.holds Try.pinned (OpenSpec.ofChange listingReadsSpec)

/-- ITS FALSE NEIGHBOUR: 'it returns false'. Refute it at one input. -/
def listingReadsWrong : ChangeSpec := { name := "listingReads", fn := fun _ => fun
  | [d] => { results := [.lit (.bool false)], args := [d] }
  | _ => none }
def ListingReadsWrongFalsely : Prop := listingReadsRow.holds Try.pinned (OpenSpec.ofChange listingReadsWrong)

/-- 'turntablelaw37.ListingBack': WHATEVER THE INPUT: true; the input reads as it did. -/
def listingBackSpec : ChangeSpec := { name := "listingBack", fn := fun _ => fun
  | [d] => { results := [.lit (.bool true)], args := [d] }
  | _ => none }
def listingBackRow : OpenClaim := { program := "ytkgjbdbhpohkiaa", sum := "12c532edaf780094a2b7ef195ff6410df94d01c823b06317d90a850e447129db", func := "turntable/turntablelaw37.ListingBack", spec := "listingBack", inPlace := ["internal/abi.NoEscape", "internal/bytealg.MakeNoZero"], unfollowed := true, recurses := true, apart := false }
def ListingBackSaid : Prop := listingBackRow.holds Try.pinned (OpenSpec.ofChange listingBackSpec)

/-- ITS FALSE NEIGHBOUR: 'it returns false'. Refute it at one input. -/
def listingBackWrong : ChangeSpec := { name := "listingBack", fn := fun _ => fun
  | [d] => { results := [.lit (.bool false)], args := [d] }
  | _ => none }
def ListingBackWrongFalsely : Prop := listingBackRow.holds Try.pinned (OpenSpec.ofChange listingBackWrong)

/-- 'turntablelaw37.ListingAgain': WHATEVER THE INPUT: true; the input reads as it did. -/
def listingAgainSpec : ChangeSpec := { name := "listingAgain", fn := fun _ => fun
  | [d] => { results := [.lit (.bool true)], args := [d] }
  | _ => none }
def listingAgainRow : OpenClaim := { program := "ytkgjbdbhpohkiaa", sum := "12c532edaf780094a2b7ef195ff6410df94d01c823b06317d90a850e447129db", func := "turntable/turntablelaw37.ListingAgain", spec := "listingAgain", inPlace := ["internal/abi.NoEscape", "internal/bytealg.MakeNoZero"], unfollowed := true, recurses := true, apart := false }
def ListingAgainSaid : Prop := listingAgainRow.holds Try.pinned (OpenSpec.ofChange listingAgainSpec)

/-- ITS FALSE NEIGHBOUR: 'it returns false'. Refute it at one input. -/
def listingAgainWrong : ChangeSpec := { name := "listingAgain", fn := fun _ => fun
  | [d] => { results := [.lit (.bool false)], args := [d] }
  | _ => none }
def ListingAgainWrongFalsely : Prop := listingAgainRow.holds Try.pinned (OpenSpec.ofChange listingAgainWrong)

/- THE SECOND FORM. 'bulk': how many values and letters a reading holds, each counted each time it is reached (what is shared counts as often as it is met; a slice's spare places count too). A statement '..UptoSaid' is the law's where the arguments, and the package variables that the reading takes, are together of bulk at most 1048576: NARROWER than '..Said'. Prove '..Said' where nothing that the law and all that it calls make is longer than what came in: it says more and counts as full. Else prove '..UptoSaid'. A law counts once. -/
mutual
def uptoBulk {H : Type} : DataW H → Nat
  | .lit (.string bytes) => bytes.length + 1
  | .lit _ => 1
  | .nil => 1
  | .ptr d => uptoBulk d + 1
  | .slice elems spare => uptoBulkAll elems + uptoBulkAll spare + 1
  | .agg parts => uptoBulkAll parts + 1
  | .iface _ d => uptoBulk d + 1
  | .map entries => uptoBulkEntries entries + 1
  | .held _ => 1
def uptoBulkAll {H : Type} : List (DataW H) → Nat
  | [] => 0
  | d :: r => uptoBulk d + uptoBulkAll r
def uptoBulkEntries {H : Type} : List (Lit × DataW H) → Nat
  | [] => 0
  | x :: r => uptoBulkEntry x + uptoBulkEntries r
def uptoBulkEntry {H : Type} : Lit × DataW H → Nat
  | (.string bytes, d) => bytes.length + uptoBulk d + 1
  | (_, d) => uptoBulk d + 1
 end
def uptoSmall : (H : Type) → List (DataW H) → Bool := fun _ ds => decide (uptoBulkAll ds ≤ 1048576)
def OpenSpec.upto (s : _root_.Go.ChangeSpec) : _root_.Go.OpenSpec := { _root_.Go.OpenSpec.ofChange s with cond := some uptoSmall }

/-- 'turntablelaw37.ListingWrites', WHERE WHAT IT READS IS OF BULK AT MOST 1048576: true; the input reads as it did. -/
def listingWritesUptoRow : OpenClaim := { program := "ytkgjbdbhpohkiaa", sum := "12c532edaf780094a2b7ef195ff6410df94d01c823b06317d90a850e447129db", func := "turntable/turntablelaw37.ListingWrites", spec := "listingWrites", inPlace := ["internal/abi.NoEscape", "internal/bytealg.MakeNoZero"], unfollowed := true, recurses := true, apart := false, narrowed := true }
def ListingWritesUptoSaid : Prop := listingWritesUptoRow.holds Try.pinned (OpenSpec.upto listingWritesSpec)

/-- 'turntablelaw37.ListingReads', WHERE WHAT IT READS IS OF BULK AT MOST 1048576: true; the input reads as it did. -/
def listingReadsUptoRow : OpenClaim := { program := "ytkgjbdbhpohkiaa", sum := "12c532edaf780094a2b7ef195ff6410df94d01c823b06317d90a850e447129db", func := "turntable/turntablelaw37.ListingReads", spec := "listingReads", inPlace := ["internal/abi.NoEscape", "internal/bytealg.MakeNoZero"], unfollowed := true, recurses := true, apart := false, narrowed := true }
def ListingReadsUptoSaid : Prop := listingReadsUptoRow.holds Try.pinned (OpenSpec.upto listingReadsSpec)

/-- 'turntablelaw37.ListingBack', WHERE WHAT IT READS IS OF BULK AT MOST 1048576: true; the input reads as it did. -/
def listingBackUptoRow : OpenClaim := { program := "ytkgjbdbhpohkiaa", sum := "12c532edaf780094a2b7ef195ff6410df94d01c823b06317d90a850e447129db", func := "turntable/turntablelaw37.ListingBack", spec := "listingBack", inPlace := ["internal/abi.NoEscape", "internal/bytealg.MakeNoZero"], unfollowed := true, recurses := true, apart := false, narrowed := true }
def ListingBackUptoSaid : Prop := listingBackUptoRow.holds Try.pinned (OpenSpec.upto listingBackSpec)

/-- 'turntablelaw37.ListingAgain', WHERE WHAT IT READS IS OF BULK AT MOST 1048576: true; the input reads as it did. -/
def listingAgainUptoRow : OpenClaim := { program := "ytkgjbdbhpohkiaa", sum := "12c532edaf780094a2b7ef195ff6410df94d01c823b06317d90a850e447129db", func := "turntable/turntablelaw37.ListingAgain", spec := "listingAgain", inPlace := ["internal/abi.NoEscape", "internal/bytealg.MakeNoZero"], unfollowed := true, recurses := true, apart := false, narrowed := true }
def ListingAgainUptoSaid : Prop := listingAgainUptoRow.holds Try.pinned (OpenSpec.upto listingAgainSpec)

end Rows
end Go.Proofs.Ytkgjbdbhpohkiaa
