/-
  No cell of these rows narrows 'for every input' (looked for: loops, veiled, ifaces, maps, wideKeys, modest, calm, conditions, laid).
  DERIVED. THE GIVEN ROWS OF THIS SEAT. 8 by the template 'for every input the law returns true; each argument reads behind the call as it read before'; 0 by the template 'total and deterministic' (their statements: YtpjehipemljkpaaTotals.lean).
  GIVEN WITH THE SEED: the statements are not yours to turn. If you find one false, say at which input.
  Laid BY PROGRAM, IN A SANDBOX (cutbox-rows.mjs): the forced cells as the released guide's own fill.sh prints them over the translation e87f36cd3477ea88… (all of the seat's roots in one cut). By AI agents, Wed Nov 11 2026. No macro, syntax, notation, axiom, sorry.
-/
import Derived.Test.YtpjehipemljkpaaChecked
import GoSem.Claim
import GoSem.ClaimJoined
import GoSem.ClaimMapViews
import Derived.JoinedTies
import Derived.KernelRfl
namespace Go.Proofs.Ytpjehipemljkpaa
/- THE CELL 'sum', in the pinned program and in every row, IS THE sha256 OF THE DUMP (.gsa) THAT YtpjehipemljkpaaProg.lean LOADS. Nothing in Lean hashes anything: it is a label: what it is worth is what the hold of that sum in a sandbox is worth. -/
noncomputable def Try.pinned : Pinned := { name := "ytpjehipemljkpaa", sum := "e87f36cd3477ea8832f589412e039fa0939e94096937b0f8a0ab00e960a56698", checked := Try.checked }
namespace Rows
def none {H : Type} : Left H := { results := [], args := [] }

/-- 'turntablelaw33.CodeChecks': WHATEVER THE INPUT: true; the input reads as it did. -/
def codeChecksSpec : ChangeSpec := { name := "codeChecks", fn := fun _ => fun
  | [d] => { results := [.lit (.bool true)], args := [d] }
  | _ => none }
def codeChecksRow : OpenClaim := { program := "ytpjehipemljkpaa", sum := "e87f36cd3477ea8832f589412e039fa0939e94096937b0f8a0ab00e960a56698", func := "turntable/turntablelaw33.CodeChecks", spec := "codeChecks", unfollowed := true, recurses := true, apart := false }
def CodeChecksSaid : Prop := codeChecksRow.holds Try.pinned (OpenSpec.ofChange codeChecksSpec)

/-- ITS FALSE NEIGHBOUR: 'it returns false'. Refute it at one input. -/
def codeChecksWrong : ChangeSpec := { name := "codeChecks", fn := fun _ => fun
  | [d] => { results := [.lit (.bool false)], args := [d] }
  | _ => none }
def CodeChecksWrongFalsely : Prop := codeChecksRow.holds Try.pinned (OpenSpec.ofChange codeChecksWrong)

/-- 'turntablelaw33.CodeBack': WHATEVER THE INPUT: true; the input reads as it did. -/
def codeBackSpec : ChangeSpec := { name := "codeBack", fn := fun _ => fun
  | [d1, d2] => { results := [.lit (.bool true)], args := [d1, d2] }
  | _ => none }
def codeBackRow : OpenClaim := { program := "ytpjehipemljkpaa", sum := "e87f36cd3477ea8832f589412e039fa0939e94096937b0f8a0ab00e960a56698", func := "turntable/turntablelaw33.CodeBack", spec := "codeBack", unfollowed := true, recurses := true, apart := false }
def CodeBackSaid : Prop := codeBackRow.holds Try.pinned (OpenSpec.ofChange codeBackSpec)

/-- ITS FALSE NEIGHBOUR: 'it returns false'. Refute it at one input. -/
def codeBackWrong : ChangeSpec := { name := "codeBack", fn := fun _ => fun
  | [d1, d2] => { results := [.lit (.bool false)], args := [d1, d2] }
  | _ => none }
def CodeBackWrongFalsely : Prop := codeBackRow.holds Try.pinned (OpenSpec.ofChange codeBackWrong)

/-- 'turntablelaw33.CodeOf': WHATEVER THE INPUT: true; the input reads as it did. -/
def codeOfSpec : ChangeSpec := { name := "codeOf", fn := fun _ => fun
  | [d] => { results := [.lit (.bool true)], args := [d] }
  | _ => none }
def codeOfRow : OpenClaim := { program := "ytpjehipemljkpaa", sum := "e87f36cd3477ea8832f589412e039fa0939e94096937b0f8a0ab00e960a56698", func := "turntable/turntablelaw33.CodeOf", spec := "codeOf", unfollowed := true, recurses := true, apart := false }
def CodeOfSaid : Prop := codeOfRow.holds Try.pinned (OpenSpec.ofChange codeOfSpec)

/-- ITS FALSE NEIGHBOUR: 'it returns false'. Refute it at one input. -/
def codeOfWrong : ChangeSpec := { name := "codeOf", fn := fun _ => fun
  | [d] => { results := [.lit (.bool false)], args := [d] }
  | _ => none }
def CodeOfWrongFalsely : Prop := codeOfRow.holds Try.pinned (OpenSpec.ofChange codeOfWrong)

/-- 'turntablelaw33.CodeCut': WHATEVER THE INPUT: true; the input reads as it did. -/
def codeCutSpec : ChangeSpec := { name := "codeCut", fn := fun _ => fun
  | [d1, d2] => { results := [.lit (.bool true)], args := [d1, d2] }
  | _ => none }
def codeCutRow : OpenClaim := { program := "ytpjehipemljkpaa", sum := "e87f36cd3477ea8832f589412e039fa0939e94096937b0f8a0ab00e960a56698", func := "turntable/turntablelaw33.CodeCut", spec := "codeCut", unfollowed := true, recurses := true, apart := false }
def CodeCutSaid : Prop := codeCutRow.holds Try.pinned (OpenSpec.ofChange codeCutSpec)

/-- ITS FALSE NEIGHBOUR: 'it returns false'. Refute it at one input. -/
def codeCutWrong : ChangeSpec := { name := "codeCut", fn := fun _ => fun
  | [d1, d2] => { results := [.lit (.bool false)], args := [d1, d2] }
  | _ => none }
def CodeCutWrongFalsely : Prop := codeCutRow.holds Try.pinned (OpenSpec.ofChange codeCutWrong)

/-- 'turntablelaw37.ListingWrites': WHATEVER THE INPUT: true; the input reads as it did. -/
def listingWritesSpec : ChangeSpec := { name := "listingWrites", fn := fun _ => fun
  | [d1, d2] => { results := [.lit (.bool true)], args := [d1, d2] }
  | _ => none }
def listingWritesRow : OpenClaim := { program := "ytpjehipemljkpaa", sum := "e87f36cd3477ea8832f589412e039fa0939e94096937b0f8a0ab00e960a56698", func := "turntable/turntablelaw37.ListingWrites", spec := "listingWrites", inPlace := ["internal/abi.NoEscape", "internal/bytealg.MakeNoZero"], unfollowed := true, recurses := true, apart := false }
def ListingWritesSaid : Prop := listingWritesRow.holds Try.pinned (OpenSpec.ofChange listingWritesSpec)

/-- ITS FALSE NEIGHBOUR: 'it returns false'. Refute it at one input. -/
def listingWritesWrong : ChangeSpec := { name := "listingWrites", fn := fun _ => fun
  | [d1, d2] => { results := [.lit (.bool false)], args := [d1, d2] }
  | _ => none }
def ListingWritesWrongFalsely : Prop := listingWritesRow.holds Try.pinned (OpenSpec.ofChange listingWritesWrong)

/-- 'turntablelaw37.ListingReads': WHATEVER THE INPUT: true; the input reads as it did. -/
def listingReadsSpec : ChangeSpec := { name := "listingReads", fn := fun _ => fun
  | [d] => { results := [.lit (.bool true)], args := [d] }
  | _ => none }
def listingReadsRow : OpenClaim := { program := "ytpjehipemljkpaa", sum := "e87f36cd3477ea8832f589412e039fa0939e94096937b0f8a0ab00e960a56698", func := "turntable/turntablelaw37.ListingReads", spec := "listingReads", inPlace := ["internal/abi.NoEscape", "internal/bytealg.MakeNoZero"], unfollowed := true, recurses := true, apart := false }
def ListingReadsSaid : Prop := listingReadsRow.holds Try.pinned (OpenSpec.ofChange listingReadsSpec)

/-- ITS FALSE NEIGHBOUR: 'it returns false'. Refute it at one input. -/
def listingReadsWrong : ChangeSpec := { name := "listingReads", fn := fun _ => fun
  | [d] => { results := [.lit (.bool false)], args := [d] }
  | _ => none }
def ListingReadsWrongFalsely : Prop := listingReadsRow.holds Try.pinned (OpenSpec.ofChange listingReadsWrong)

/-- 'turntablelaw37.ListingBack': WHATEVER THE INPUT: true; the input reads as it did. -/
def listingBackSpec : ChangeSpec := { name := "listingBack", fn := fun _ => fun
  | [d] => { results := [.lit (.bool true)], args := [d] }
  | _ => none }
def listingBackRow : OpenClaim := { program := "ytpjehipemljkpaa", sum := "e87f36cd3477ea8832f589412e039fa0939e94096937b0f8a0ab00e960a56698", func := "turntable/turntablelaw37.ListingBack", spec := "listingBack", inPlace := ["internal/abi.NoEscape", "internal/bytealg.MakeNoZero"], unfollowed := true, recurses := true, apart := false }
def ListingBackSaid : Prop := listingBackRow.holds Try.pinned (OpenSpec.ofChange listingBackSpec)

/-- ITS FALSE NEIGHBOUR: 'it returns false'. Refute it at one input. -/
def listingBackWrong : ChangeSpec := { name := "listingBack", fn := fun _ => fun
  | [d] => { results := [.lit (.bool false)], args := [d] }
  | _ => none }
def ListingBackWrongFalsely : Prop := listingBackRow.holds Try.pinned (OpenSpec.ofChange listingBackWrong)

/-- 'turntablelaw37.ListingAgain': WHATEVER THE INPUT: true; the input reads as it did. -/
def listingAgainSpec : ChangeSpec := { name := "listingAgain", fn := fun _ => fun
  | [d] => { results := [.lit (.bool true)], args := [d] }
  | _ => none }
def listingAgainRow : OpenClaim := { program := "ytpjehipemljkpaa", sum := "e87f36cd3477ea8832f589412e039fa0939e94096937b0f8a0ab00e960a56698", func := "turntable/turntablelaw37.ListingAgain", spec := "listingAgain", inPlace := ["internal/abi.NoEscape", "internal/bytealg.MakeNoZero"], unfollowed := true, recurses := true, apart := false }
def ListingAgainSaid : Prop := listingAgainRow.holds Try.pinned (OpenSpec.ofChange listingAgainSpec)

/-- ITS FALSE NEIGHBOUR: 'it returns false'. Refute it at one input. -/
def listingAgainWrong : ChangeSpec := { name := "listingAgain", fn := fun _ => fun
  | [d] => { results := [.lit (.bool false)], args := [d] }
  | _ => none }
def ListingAgainWrongFalsely : Prop := listingAgainRow.holds Try.pinned (OpenSpec.ofChange listingAgainWrong)

/- THE SECOND FORM. 'bulk': how many values and letters a reading holds, each counted each time it is reached (what is shared counts as often as it is met; a slice's spare places count too). A statement '..UptoSaid' is the law's where the arguments, and the package variables that the reading takes, are together of bulk at most 1048576: NARROWER than '..Said'. Prove '..Said' where nothing that the law and all that it calls make is longer than what came in: it says more and counts as full. Else prove '..UptoSaid'. A law counts once. -/
mutual
def uptoBulk {H : Type} : DataW H → Nat
  | .lit (.string bytes) => bytes.length + 1
  | .lit _ => 1
  | .nil => 1
  | .ptr d => uptoBulk d + 1
  | .slice elems spare => uptoBulkAll elems + uptoBulkAll spare + 1
  | .agg parts => uptoBulkAll parts + 1
  | .iface _ d => uptoBulk d + 1
  | .map entries => uptoBulkEntries entries + 1
  | .held _ => 1
def uptoBulkAll {H : Type} : List (DataW H) → Nat
  | [] => 0
  | d :: r => uptoBulk d + uptoBulkAll r
def uptoBulkEntries {H : Type} : List (Lit × DataW H) → Nat
  | [] => 0
  | x :: r => uptoBulkEntry x + uptoBulkEntries r
def uptoBulkEntry {H : Type} : Lit × DataW H → Nat
  | (.string bytes, d) => bytes.length + uptoBulk d + 1
  | (_, d) => uptoBulk d + 1
 end
def uptoSmall : (H : Type) → List (DataW H) → Bool := fun _ ds => decide (uptoBulkAll ds ≤ 1048576)
def OpenSpec.upto (s : _root_.Go.ChangeSpec) : _root_.Go.OpenSpec := { _root_.Go.OpenSpec.ofChange s with cond := some uptoSmall }

/-- 'turntablelaw33.CodeChecks', WHERE WHAT IT READS IS OF BULK AT MOST 1048576: true; the input reads as it did. -/
def codeChecksUptoRow : OpenClaim := { program := "ytpjehipemljkpaa", sum := "e87f36cd3477ea8832f589412e039fa0939e94096937b0f8a0ab00e960a56698", func := "turntable/turntablelaw33.CodeChecks", spec := "codeChecks", unfollowed := true, recurses := true, apart := false, narrowed := true }
def CodeChecksUptoSaid : Prop := codeChecksUptoRow.holds Try.pinned (OpenSpec.upto codeChecksSpec)

/-- 'turntablelaw33.CodeBack', WHERE WHAT IT READS IS OF BULK AT MOST 1048576: true; the input reads as it did. -/
def codeBackUptoRow : OpenClaim := { program := "ytpjehipemljkpaa", sum := "e87f36cd3477ea8832f589412e039fa0939e94096937b0f8a0ab00e960a56698", func := "turntable/turntablelaw33.CodeBack", spec := "codeBack", unfollowed := true, recurses := true, apart := false, narrowed := true }
def CodeBackUptoSaid : Prop := codeBackUptoRow.holds Try.pinned (OpenSpec.upto codeBackSpec)

/-- 'turntablelaw33.CodeOf', WHERE WHAT IT READS IS OF BULK AT MOST 1048576: true; the input reads as it did. -/
def codeOfUptoRow : OpenClaim := { program := "ytpjehipemljkpaa", sum := "e87f36cd3477ea8832f589412e039fa0939e94096937b0f8a0ab00e960a56698", func := "turntable/turntablelaw33.CodeOf", spec := "codeOf", unfollowed := true, recurses := true, apart := false, narrowed := true }
def CodeOfUptoSaid : Prop := codeOfUptoRow.holds Try.pinned (OpenSpec.upto codeOfSpec)

/-- 'turntablelaw33.CodeCut', WHERE WHAT IT READS IS OF BULK AT MOST 1048576: true; the input reads as it did. -/
def codeCutUptoRow : OpenClaim := { program := "ytpjehipemljkpaa", sum := "e87f36cd3477ea8832f589412e039fa0939e94096937b0f8a0ab00e960a56698", func := "turntable/turntablelaw33.CodeCut", spec := "codeCut", unfollowed := true, recurses := true, apart := false, narrowed := true }
def CodeCutUptoSaid : Prop := codeCutUptoRow.holds Try.pinned (OpenSpec.upto codeCutSpec)

/-- 'turntablelaw37.ListingWrites', WHERE WHAT IT READS IS OF BULK AT MOST 1048576: true; the input reads as it did. -/
def listingWritesUptoRow : OpenClaim := { program := "ytpjehipemljkpaa", sum := "e87f36cd3477ea8832f589412e039fa0939e94096937b0f8a0ab00e960a56698", func := "turntable/turntablelaw37.ListingWrites", spec := "listingWrites", inPlace := ["internal/abi.NoEscape", "internal/bytealg.MakeNoZero"], unfollowed := true, recurses := true, apart := false, narrowed := true }
def ListingWritesUptoSaid : Prop := listingWritesUptoRow.holds Try.pinned (OpenSpec.upto listingWritesSpec)

/-- 'turntablelaw37.ListingReads', WHERE WHAT IT READS IS OF BULK AT MOST 1048576: true; the input reads as it did. -/
def listingReadsUptoRow : OpenClaim := { program := "ytpjehipemljkpaa", sum := "e87f36cd3477ea8832f589412e039fa0939e94096937b0f8a0ab00e960a56698", func := "turntable/turntablelaw37.ListingReads", spec := "listingReads", inPlace := ["internal/abi.NoEscape", "internal/bytealg.MakeNoZero"], unfollowed := true, recurses := true, apart := false, narrowed := true }
def ListingReadsUptoSaid : Prop := listingReadsUptoRow.holds Try.pinned (OpenSpec.upto listingReadsSpec)

/-- 'turntablelaw37.ListingBack', WHERE WHAT IT READS IS OF BULK AT MOST 1048576: true; the input reads as it did. -/
def listingBackUptoRow : OpenClaim := { program := "ytpjehipemljkpaa", sum := "e87f36cd3477ea8832f589412e039fa0939e94096937b0f8a0ab00e960a56698", func := "turntable/turntablelaw37.ListingBack", spec := "listingBack", inPlace := ["internal/abi.NoEscape", "internal/bytealg.MakeNoZero"], unfollowed := true, recurses := true, apart := false, narrowed := true }
def ListingBackUptoSaid : Prop := listingBackUptoRow.holds Try.pinned (OpenSpec.upto listingBackSpec)

/-- 'turntablelaw37.ListingAgain', WHERE WHAT IT READS IS OF BULK AT MOST 1048576: true; the input reads as it did. -/
def listingAgainUptoRow : OpenClaim := { program := "ytpjehipemljkpaa", sum := "e87f36cd3477ea8832f589412e039fa0939e94096937b0f8a0ab00e960a56698", func := "turntable/turntablelaw37.ListingAgain", spec := "listingAgain", inPlace := ["internal/abi.NoEscape", "internal/bytealg.MakeNoZero"], unfollowed := true, recurses := true, apart := false, narrowed := true }
def ListingAgainUptoSaid : Prop := listingAgainUptoRow.holds Try.pinned (OpenSpec.upto listingAgainSpec)

end Rows
end Go.Proofs.Ytpjehipemljkpaa
