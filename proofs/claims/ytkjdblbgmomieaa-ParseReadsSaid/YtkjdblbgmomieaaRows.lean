/-
  No cell of these rows narrows 'for every input' (looked for: loops, veiled, ifaces, maps, wideKeys, modest, calm, conditions, laid).
  DERIVED. THE GIVEN ROWS OF THIS SEAT. 5 by the template 'for every input the law returns true; each argument reads behind the call as it read before'; 0 by the template 'total and deterministic' (their statements: YtkjdblbgmomieaaTotals.lean).
  GIVEN WITH THE SEED: the statements are not yours to turn. If you find one false, say at which input.
  Laid BY PROGRAM, IN A SANDBOX (cutbox-rows.mjs): the forced cells as the released guide's own fill.sh prints them over the translation 2b910c04cefbb2d2… (all of the seat's roots in one cut). By AI agents, Wed Nov 11 2026. No macro, syntax, notation, axiom, sorry.
-/
import Derived.Test.YtkjdblbgmomieaaChecked
import GoSem.Claim
import GoSem.ClaimJoined
import GoSem.ClaimMapViews
import Derived.JoinedTies
import Derived.KernelRfl
namespace Go.Proofs.Ytkjdblbgmomieaa
/- THE CELL 'sum', in the pinned program and in every row, IS THE sha256 OF THE DUMP (.gsa) THAT YtkjdblbgmomieaaProg.lean LOADS. Nothing in Lean hashes anything: it is a label: what it is worth is what the hold of that sum in a sandbox is worth. -/
noncomputable def Try.pinned : Pinned := { name := "ytkjdblbgmomieaa", sum := "2b910c04cefbb2d27bcc4627fd152bd826b8dae9b76b42c47da71aacf2b7fbc9", checked := Try.checked }
namespace Rows
def none {H : Type} : Left H := { results := [], args := [] }

/-- 'turntablelaw07.ShowWrites': WHATEVER THE INPUT: true; the input reads as it did. -/
def showWritesSpec : ChangeSpec := { name := "showWrites", fn := fun _ => fun
  | [d] => { results := [.lit (.bool true)], args := [d] }
  | _ => none }
def showWritesRow : OpenClaim := { program := "ytkjdblbgmomieaa", sum := "2b910c04cefbb2d27bcc4627fd152bd826b8dae9b76b42c47da71aacf2b7fbc9", func := "turntable/turntablelaw07.ShowWrites", spec := "showWrites", inPlace := ["internal/abi.NoEscape", "internal/bytealg.MakeNoZero"], unfollowed := true, recurses := true, apart := false }
def ShowWritesSaid : Prop := showWritesRow.holds Try.pinned (OpenSpec.ofChange showWritesSpec)

/-- ITS FALSE NEIGHBOUR: 'it returns false'. Refute it at one input. -/
def showWritesWrong : ChangeSpec := { name := "showWrites", fn := fun _ => fun
  | [d] => { results := [.lit (.bool false)], args := [d] }
  | _ => none }
def ShowWritesWrongFalsely : Prop := showWritesRow.holds Try.pinned (OpenSpec.ofChange showWritesWrong)

/-- 'turntablelaw07.ShowChecks': WHATEVER THE INPUT: true; the input reads as it did. -/
def showChecksSpec : ChangeSpec := { name := "showChecks", fn := fun _ => fun
  | [d1, d2] => { results := [.lit (.bool true)], args := [d1, d2] }
  | _ => none }
def showChecksRow : OpenClaim := { program := "ytkjdblbgmomieaa", sum := "2b910c04cefbb2d27bcc4627fd152bd826b8dae9b76b42c47da71aacf2b7fbc9", func := "turntable/turntablelaw07.ShowChecks", spec := "showChecks", inPlace := ["internal/abi.NoEscape", "internal/bytealg.MakeNoZero"], unfollowed := true, recurses := true, apart := false }
def ShowChecksSaid : Prop := showChecksRow.holds Try.pinned (OpenSpec.ofChange showChecksSpec)

/-- ITS FALSE NEIGHBOUR: 'it returns false'. Refute it at one input. -/
def showChecksWrong : ChangeSpec := { name := "showChecks", fn := fun _ => fun
  | [d1, d2] => { results := [.lit (.bool false)], args := [d1, d2] }
  | _ => none }
def ShowChecksWrongFalsely : Prop := showChecksRow.holds Try.pinned (OpenSpec.ofChange showChecksWrong)

/-- 'turntablelaw06.ParseReads': WHATEVER THE INPUT: true; the input reads as it did. -/
def parseReadsSpec : ChangeSpec := { name := "parseReads", fn := fun _ => fun
  | [d] => { results := [.lit (.bool true)], args := [d] }
  | _ => none }
def parseReadsRow : OpenClaim := { program := "ytkjdblbgmomieaa", sum := "2b910c04cefbb2d27bcc4627fd152bd826b8dae9b76b42c47da71aacf2b7fbc9", func := "turntable/turntablelaw06.ParseReads", spec := "parseReads", unfollowed := true, recurses := true, apart := false }
def ParseReadsSaid : Prop := parseReadsRow.holds Try.pinned (OpenSpec.ofChange parseReadsSpec)

/-- ITS FALSE NEIGHBOUR: 'it returns false'. Refute it at one input. -/
def parseReadsWrong : ChangeSpec := { name := "parseReads", fn := fun _ => fun
  | [d] => { results := [.lit (.bool false)], args := [d] }
  | _ => none }
def ParseReadsWrongFalsely : Prop := parseReadsRow.holds Try.pinned (OpenSpec.ofChange parseReadsWrong)

/-- 'turntablelaw06.ParseStands': WHATEVER THE INPUT: true; the input reads as it did. -/
def parseStandsSpec : ChangeSpec := { name := "parseStands", fn := fun _ => fun
  | [d] => { results := [.lit (.bool true)], args := [d] }
  | _ => none }
def parseStandsRow : OpenClaim := { program := "ytkjdblbgmomieaa", sum := "2b910c04cefbb2d27bcc4627fd152bd826b8dae9b76b42c47da71aacf2b7fbc9", func := "turntable/turntablelaw06.ParseStands", spec := "parseStands", unfollowed := true, recurses := true, apart := false }
def ParseStandsSaid : Prop := parseStandsRow.holds Try.pinned (OpenSpec.ofChange parseStandsSpec)

/-- ITS FALSE NEIGHBOUR: 'it returns false'. Refute it at one input. -/
def parseStandsWrong : ChangeSpec := { name := "parseStands", fn := fun _ => fun
  | [d] => { results := [.lit (.bool false)], args := [d] }
  | _ => none }
def ParseStandsWrongFalsely : Prop := parseStandsRow.holds Try.pinned (OpenSpec.ofChange parseStandsWrong)

/-- 'turntablelaw06.ParseJoins': WHATEVER THE INPUT: true; the input reads as it did. -/
def parseJoinsSpec : ChangeSpec := { name := "parseJoins", fn := fun _ => fun
  | [d1, d2] => { results := [.lit (.bool true)], args := [d1, d2] }
  | _ => none }
def parseJoinsRow : OpenClaim := { program := "ytkjdblbgmomieaa", sum := "2b910c04cefbb2d27bcc4627fd152bd826b8dae9b76b42c47da71aacf2b7fbc9", func := "turntable/turntablelaw06.ParseJoins", spec := "parseJoins", unfollowed := true, recurses := true, apart := false }
def ParseJoinsSaid : Prop := parseJoinsRow.holds Try.pinned (OpenSpec.ofChange parseJoinsSpec)

/-- ITS FALSE NEIGHBOUR: 'it returns false'. Refute it at one input. -/
def parseJoinsWrong : ChangeSpec := { name := "parseJoins", fn := fun _ => fun
  | [d1, d2] => { results := [.lit (.bool false)], args := [d1, d2] }
  | _ => none }
def ParseJoinsWrongFalsely : Prop := parseJoinsRow.holds Try.pinned (OpenSpec.ofChange parseJoinsWrong)

/- THE SECOND FORM. 'bulk': how many values and letters a reading holds, each counted each time it is reached (what is shared counts as often as it is met; a slice's spare places count too). A statement '..UptoSaid' is the law's where the arguments, and the package variables that the reading takes, are together of bulk at most 1048576: NARROWER than '..Said'. Prove '..Said' where nothing that the law and all that it calls make is longer than what came in: it says more and counts as full. Else prove '..UptoSaid'. A law counts once. -/
mutual
def uptoBulk {H : Type} : DataW H → Nat
  | .lit (.string bytes) => bytes.length + 1
  | .lit _ => 1
  | .nil => 1
  | .ptr d => uptoBulk d + 1
  | .slice elems spare => uptoBulkAll elems + uptoBulkAll spare + 1
  | .agg parts => uptoBulkAll parts + 1
  | .iface _ d => uptoBulk d + 1
  | .map entries => uptoBulkEntries entries + 1
  | .held _ => 1
def uptoBulkAll {H : Type} : List (DataW H) → Nat
  | [] => 0
  | d :: r => uptoBulk d + uptoBulkAll r
def uptoBulkEntries {H : Type} : List (Lit × DataW H) → Nat
  | [] => 0
  | x :: r => uptoBulkEntry x + uptoBulkEntries r
def uptoBulkEntry {H : Type} : Lit × DataW H → Nat
  | (.string bytes, d) => bytes.length + uptoBulk d + 1
  | (_, d) => uptoBulk d + 1
 end
def uptoSmall : (H : Type) → List (DataW H) → Bool := fun _ ds => decide (uptoBulkAll ds ≤ 1048576)
def OpenSpec.upto (s : _root_.Go.ChangeSpec) : _root_.Go.OpenSpec := { _root_.Go.OpenSpec.ofChange s with cond := some uptoSmall }

/-- 'turntablelaw07.ShowWrites', WHERE WHAT IT READS IS OF BULK AT MOST 1048576: true; the input reads as it did. -/
def showWritesUptoRow : OpenClaim := { program := "ytkjdblbgmomieaa", sum := "2b910c04cefbb2d27bcc4627fd152bd826b8dae9b76b42c47da71aacf2b7fbc9", func := "turntable/turntablelaw07.ShowWrites", spec := "showWrites", inPlace := ["internal/abi.NoEscape", "internal/bytealg.MakeNoZero"], unfollowed := true, recurses := true, apart := false, narrowed := true }
def ShowWritesUptoSaid : Prop := showWritesUptoRow.holds Try.pinned (OpenSpec.upto showWritesSpec)

/-- 'turntablelaw07.ShowChecks', WHERE WHAT IT READS IS OF BULK AT MOST 1048576: true; the input reads as it did. -/
def showChecksUptoRow : OpenClaim := { program := "ytkjdblbgmomieaa", sum := "2b910c04cefbb2d27bcc4627fd152bd826b8dae9b76b42c47da71aacf2b7fbc9", func := "turntable/turntablelaw07.ShowChecks", spec := "showChecks", inPlace := ["internal/abi.NoEscape", "internal/bytealg.MakeNoZero"], unfollowed := true, recurses := true, apart := false, narrowed := true }
def ShowChecksUptoSaid : Prop := showChecksUptoRow.holds Try.pinned (OpenSpec.upto showChecksSpec)

/-- 'turntablelaw06.ParseReads', WHERE WHAT IT READS IS OF BULK AT MOST 1048576: true; the input reads as it did. -/
def parseReadsUptoRow : OpenClaim := { program := "ytkjdblbgmomieaa", sum := "2b910c04cefbb2d27bcc4627fd152bd826b8dae9b76b42c47da71aacf2b7fbc9", func := "turntable/turntablelaw06.ParseReads", spec := "parseReads", unfollowed := true, recurses := true, apart := false, narrowed := true }
def ParseReadsUptoSaid : Prop := parseReadsUptoRow.holds Try.pinned (OpenSpec.upto parseReadsSpec)

/-- 'turntablelaw06.ParseStands', WHERE WHAT IT READS IS OF BULK AT MOST 1048576: true; the input reads as it did. -/
def parseStandsUptoRow : OpenClaim := { program := "ytkjdblbgmomieaa", sum := "2b910c04cefbb2d27bcc4627fd152bd826b8dae9b76b42c47da71aacf2b7fbc9", func := "turntable/turntablelaw06.ParseStands", spec := "parseStands", unfollowed := true, recurses := true, apart := false, narrowed := true }
def ParseStandsUptoSaid : Prop := parseStandsUptoRow.holds Try.pinned (OpenSpec.upto parseStandsSpec)

/-- 'turntablelaw06.ParseJoins', WHERE WHAT IT READS IS OF BULK AT MOST 1048576: true; the input reads as it did. -/
def parseJoinsUptoRow : OpenClaim := { program := "ytkjdblbgmomieaa", sum := "2b910c04cefbb2d27bcc4627fd152bd826b8dae9b76b42c47da71aacf2b7fbc9", func := "turntable/turntablelaw06.ParseJoins", spec := "parseJoins", unfollowed := true, recurses := true, apart := false, narrowed := true }
def ParseJoinsUptoSaid : Prop := parseJoinsUptoRow.holds Try.pinned (OpenSpec.upto parseJoinsSpec)

end Rows
end Go.Proofs.Ytkjdblbgmomieaa
