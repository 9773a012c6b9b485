/-
  No cell of these rows narrows 'for every input' (looked for: loops, veiled, ifaces, maps, wideKeys, modest, calm, conditions, laid).
  DERIVED. THE GIVEN ROWS OF THIS SEAT. 11 by the template 'for every input the law returns true; each argument reads behind the call as it read before'; 0 by the template 'total and deterministic' (their statements: YthnkgnbemmndgaaTotals.lean).
  GIVEN WITH THE SEED: the statements are not yours to turn. If you find one false, say at which input.
  Laid BY PROGRAM, IN A SANDBOX (cutbox-rows.mjs): the forced cells as the released guide's own fill.sh prints them over the translation 3133f273cef961ad… (all of the seat's roots in one cut). By AI agents, Wed Nov 11 2026. No macro, syntax, notation, axiom, sorry.
-/
import Derived.Test.YthnkgnbemmndgaaChecked
import GoSem.Claim
import GoSem.ClaimJoined
import GoSem.ClaimMapViews
import Derived.JoinedTies
import Derived.KernelRfl
namespace Go.Proofs.Ythnkgnbemmndgaa
/- THE CELL 'sum', in the pinned program and in every row, IS THE sha256 OF THE DUMP (.gsa) THAT YthnkgnbemmndgaaProg.lean LOADS. Nothing in Lean hashes anything: it is a label: what it is worth is what the hold of that sum in a sandbox is worth. -/
noncomputable def Try.pinned : Pinned := { name := "ythnkgnbemmndgaa", sum := "3133f273cef961ad828c41634f99743591c971fc2e401988e9fb8fa5b403569d", checked := Try.checked }
namespace Rows
def none {H : Type} : Left H := { results := [], args := [] }

/-- 'turntablelaw04.ArithDoes': WHATEVER THE INPUT: true; the input reads as it did. -/
def arithDoesSpec : ChangeSpec := { name := "arithDoes", fn := fun _ => fun
  | [d1, d2, d3] => { results := [.lit (.bool true)], args := [d1, d2, d3] }
  | _ => none }
def arithDoesRow : OpenClaim := { program := "ythnkgnbemmndgaa", sum := "3133f273cef961ad828c41634f99743591c971fc2e401988e9fb8fa5b403569d", func := "turntable/turntablelaw04.ArithDoes", spec := "arithDoes", apart := false }
def ArithDoesSaid : Prop := arithDoesRow.holds Try.pinned (OpenSpec.ofChange arithDoesSpec)

/-- ITS FALSE NEIGHBOUR: 'it returns false'. Refute it at one input. -/
def arithDoesWrong : ChangeSpec := { name := "arithDoes", fn := fun _ => fun
  | [d1, d2, d3] => { results := [.lit (.bool false)], args := [d1, d2, d3] }
  | _ => none }
def ArithDoesWrongFalsely : Prop := arithDoesRow.holds Try.pinned (OpenSpec.ofChange arithDoesWrong)

/-- 'turntablelaw04.ArithSimple': WHATEVER THE INPUT: true; the input reads as it did. -/
def arithSimpleSpec : ChangeSpec := { name := "arithSimple", fn := fun _ => fun
  | [d1, d2, d3] => { results := [.lit (.bool true)], args := [d1, d2, d3] }
  | _ => none }
def arithSimpleRow : OpenClaim := { program := "ythnkgnbemmndgaa", sum := "3133f273cef961ad828c41634f99743591c971fc2e401988e9fb8fa5b403569d", func := "turntable/turntablelaw04.ArithSimple", spec := "arithSimple", apart := false }
def ArithSimpleSaid : Prop := arithSimpleRow.holds Try.pinned (OpenSpec.ofChange arithSimpleSpec)

/-- ITS FALSE NEIGHBOUR: 'it returns false'. Refute it at one input. -/
def arithSimpleWrong : ChangeSpec := { name := "arithSimple", fn := fun _ => fun
  | [d1, d2, d3] => { results := [.lit (.bool false)], args := [d1, d2, d3] }
  | _ => none }
def ArithSimpleWrongFalsely : Prop := arithSimpleRow.holds Try.pinned (OpenSpec.ofChange arithSimpleWrong)

/-- 'turntablelaw04.ArithTrue': WHATEVER THE INPUT: true; the input reads as it did. -/
def arithTrueSpec : ChangeSpec := { name := "arithTrue", fn := fun _ => fun
  | [d1, d2, d3, d4, d5] => { results := [.lit (.bool true)], args := [d1, d2, d3, d4, d5] }
  | _ => none }
def arithTrueRow : OpenClaim := { program := "ythnkgnbemmndgaa", sum := "3133f273cef961ad828c41634f99743591c971fc2e401988e9fb8fa5b403569d", func := "turntable/turntablelaw04.ArithTrue", spec := "arithTrue", apart := false }
def ArithTrueSaid : Prop := arithTrueRow.holds Try.pinned (OpenSpec.ofChange arithTrueSpec)

/-- ITS FALSE NEIGHBOUR: 'it returns false'. Refute it at one input. -/
def arithTrueWrong : ChangeSpec := { name := "arithTrue", fn := fun _ => fun
  | [d1, d2, d3, d4, d5] => { results := [.lit (.bool false)], args := [d1, d2, d3, d4, d5] }
  | _ => none }
def ArithTrueWrongFalsely : Prop := arithTrueRow.holds Try.pinned (OpenSpec.ofChange arithTrueWrong)

/-- 'turntablelaw04.ArithTurns': WHATEVER THE INPUT: true; the input reads as it did. -/
def arithTurnsSpec : ChangeSpec := { name := "arithTurns", fn := fun _ => fun
  | [d1, d2, d3] => { results := [.lit (.bool true)], args := [d1, d2, d3] }
  | _ => none }
def arithTurnsRow : OpenClaim := { program := "ythnkgnbemmndgaa", sum := "3133f273cef961ad828c41634f99743591c971fc2e401988e9fb8fa5b403569d", func := "turntable/turntablelaw04.ArithTurns", spec := "arithTurns", apart := false }
def ArithTurnsSaid : Prop := arithTurnsRow.holds Try.pinned (OpenSpec.ofChange arithTurnsSpec)

/-- ITS FALSE NEIGHBOUR: 'it returns false'. Refute it at one input. -/
def arithTurnsWrong : ChangeSpec := { name := "arithTurns", fn := fun _ => fun
  | [d1, d2, d3] => { results := [.lit (.bool false)], args := [d1, d2, d3] }
  | _ => none }
def ArithTurnsWrongFalsely : Prop := arithTurnsRow.holds Try.pinned (OpenSpec.ofChange arithTurnsWrong)

/-- 'turntablelaw01.DigitsPrints': WHATEVER THE INPUT: true; the input reads as it did. -/
def digitsPrintsSpec : ChangeSpec := { name := "digitsPrints", fn := fun _ => fun
  | [d1, d2] => { results := [.lit (.bool true)], args := [d1, d2] }
  | _ => none }
def digitsPrintsRow : OpenClaim := { program := "ythnkgnbemmndgaa", sum := "3133f273cef961ad828c41634f99743591c971fc2e401988e9fb8fa5b403569d", func := "turntable/turntablelaw01.DigitsPrints", spec := "digitsPrints", apart := false }
def DigitsPrintsSaid : Prop := digitsPrintsRow.holds Try.pinned (OpenSpec.ofChange digitsPrintsSpec)

/-- ITS FALSE NEIGHBOUR: 'it returns false'. Refute it at one input. -/
def digitsPrintsWrong : ChangeSpec := { name := "digitsPrints", fn := fun _ => fun
  | [d1, d2] => { results := [.lit (.bool false)], args := [d1, d2] }
  | _ => none }
def DigitsPrintsWrongFalsely : Prop := digitsPrintsRow.holds Try.pinned (OpenSpec.ofChange digitsPrintsWrong)

/-- 'turntablelaw01.DigitsReads': WHATEVER THE INPUT: true; the input reads as it did. -/
def digitsReadsSpec : ChangeSpec := { name := "digitsReads", fn := fun _ => fun
  | [d1, d2] => { results := [.lit (.bool true)], args := [d1, d2] }
  | _ => none }
def digitsReadsRow : OpenClaim := { program := "ythnkgnbemmndgaa", sum := "3133f273cef961ad828c41634f99743591c971fc2e401988e9fb8fa5b403569d", func := "turntable/turntablelaw01.DigitsReads", spec := "digitsReads", apart := false }
def DigitsReadsSaid : Prop := digitsReadsRow.holds Try.pinned (OpenSpec.ofChange digitsReadsSpec)

/-- ITS FALSE NEIGHBOUR: 'it returns false'. Refute it at one input. -/
def digitsReadsWrong : ChangeSpec := { name := "digitsReads", fn := fun _ => fun
  | [d1, d2] => { results := [.lit (.bool false)], args := [d1, d2] }
  | _ => none }
def DigitsReadsWrongFalsely : Prop := digitsReadsRow.holds Try.pinned (OpenSpec.ofChange digitsReadsWrong)

/-- 'turntablelaw01.DigitsBack': WHATEVER THE INPUT: true; the input reads as it did. -/
def digitsBackSpec : ChangeSpec := { name := "digitsBack", fn := fun _ => fun
  | [d1, d2] => { results := [.lit (.bool true)], args := [d1, d2] }
  | _ => none }
def digitsBackRow : OpenClaim := { program := "ythnkgnbemmndgaa", sum := "3133f273cef961ad828c41634f99743591c971fc2e401988e9fb8fa5b403569d", func := "turntable/turntablelaw01.DigitsBack", spec := "digitsBack", apart := false }
def DigitsBackSaid : Prop := digitsBackRow.holds Try.pinned (OpenSpec.ofChange digitsBackSpec)

/-- ITS FALSE NEIGHBOUR: 'it returns false'. Refute it at one input. -/
def digitsBackWrong : ChangeSpec := { name := "digitsBack", fn := fun _ => fun
  | [d1, d2] => { results := [.lit (.bool false)], args := [d1, d2] }
  | _ => none }
def DigitsBackWrongFalsely : Prop := digitsBackRow.holds Try.pinned (OpenSpec.ofChange digitsBackWrong)

/-- 'turntablelaw01.DigitsOrder': WHATEVER THE INPUT: true; the input reads as it did. -/
def digitsOrderSpec : ChangeSpec := { name := "digitsOrder", fn := fun _ => fun
  | [d1, d2] => { results := [.lit (.bool true)], args := [d1, d2] }
  | _ => none }
def digitsOrderRow : OpenClaim := { program := "ythnkgnbemmndgaa", sum := "3133f273cef961ad828c41634f99743591c971fc2e401988e9fb8fa5b403569d", func := "turntable/turntablelaw01.DigitsOrder", spec := "digitsOrder", apart := false }
def DigitsOrderSaid : Prop := digitsOrderRow.holds Try.pinned (OpenSpec.ofChange digitsOrderSpec)

/-- ITS FALSE NEIGHBOUR: 'it returns false'. Refute it at one input. -/
def digitsOrderWrong : ChangeSpec := { name := "digitsOrder", fn := fun _ => fun
  | [d1, d2] => { results := [.lit (.bool false)], args := [d1, d2] }
  | _ => none }
def DigitsOrderWrongFalsely : Prop := digitsOrderRow.holds Try.pinned (OpenSpec.ofChange digitsOrderWrong)

/-- 'turntablelaw02.TokenNames': WHATEVER THE INPUT: true; the input reads as it did. -/
def tokenNamesSpec : ChangeSpec := { name := "tokenNames", fn := fun _ => fun
  | [d1, d2] => { results := [.lit (.bool true)], args := [d1, d2] }
  | _ => none }
def tokenNamesRow : OpenClaim := { program := "ythnkgnbemmndgaa", sum := "3133f273cef961ad828c41634f99743591c971fc2e401988e9fb8fa5b403569d", func := "turntable/turntablelaw02.TokenNames", spec := "tokenNames", unfollowed := true, recurses := true, apart := false }
def TokenNamesSaid : Prop := tokenNamesRow.holds Try.pinned (OpenSpec.ofChange tokenNamesSpec)

/-- ITS FALSE NEIGHBOUR: 'it returns false'. Refute it at one input. -/
def tokenNamesWrong : ChangeSpec := { name := "tokenNames", fn := fun _ => fun
  | [d1, d2] => { results := [.lit (.bool false)], args := [d1, d2] }
  | _ => none }
def TokenNamesWrongFalsely : Prop := tokenNamesRow.holds Try.pinned (OpenSpec.ofChange tokenNamesWrong)

/-- 'turntablelaw02.TokenBack': WHATEVER THE INPUT: true; the input reads as it did. -/
def tokenBackSpec : ChangeSpec := { name := "tokenBack", fn := fun _ => fun
  | [d] => { results := [.lit (.bool true)], args := [d] }
  | _ => none }
def tokenBackRow : OpenClaim := { program := "ythnkgnbemmndgaa", sum := "3133f273cef961ad828c41634f99743591c971fc2e401988e9fb8fa5b403569d", func := "turntable/turntablelaw02.TokenBack", spec := "tokenBack", unfollowed := true, recurses := true, apart := false }
def TokenBackSaid : Prop := tokenBackRow.holds Try.pinned (OpenSpec.ofChange tokenBackSpec)

/-- ITS FALSE NEIGHBOUR: 'it returns false'. Refute it at one input. -/
def tokenBackWrong : ChangeSpec := { name := "tokenBack", fn := fun _ => fun
  | [d] => { results := [.lit (.bool false)], args := [d] }
  | _ => none }
def TokenBackWrongFalsely : Prop := tokenBackRow.holds Try.pinned (OpenSpec.ofChange tokenBackWrong)

/-- 'turntablelaw02.TokenStands': WHATEVER THE INPUT: true; the input reads as it did. -/
def tokenStandsSpec : ChangeSpec := { name := "tokenStands", fn := fun _ => fun
  | [d] => { results := [.lit (.bool true)], args := [d] }
  | _ => none }
def tokenStandsRow : OpenClaim := { program := "ythnkgnbemmndgaa", sum := "3133f273cef961ad828c41634f99743591c971fc2e401988e9fb8fa5b403569d", func := "turntable/turntablelaw02.TokenStands", spec := "tokenStands", unfollowed := true, recurses := true, apart := false }
def TokenStandsSaid : Prop := tokenStandsRow.holds Try.pinned (OpenSpec.ofChange tokenStandsSpec)

/-- ITS FALSE NEIGHBOUR: 'it returns false'. Refute it at one input. -/
def tokenStandsWrong : ChangeSpec := { name := "tokenStands", fn := fun _ => fun
  | [d] => { results := [.lit (.bool false)], args := [d] }
  | _ => none }
def TokenStandsWrongFalsely : Prop := tokenStandsRow.holds Try.pinned (OpenSpec.ofChange tokenStandsWrong)

/- THE SECOND FORM. 'bulk': how many values and letters a reading holds, each counted each time it is reached (what is shared counts as often as it is met; a slice's spare places count too). A statement '..UptoSaid' is the law's where the arguments, and the package variables that the reading takes, are together of bulk at most 1048576: NARROWER than '..Said'. Prove '..Said' where nothing that the law and all that it calls make is longer than what came in: it says more and counts as full. Else prove '..UptoSaid'. A law counts once. -/
mutual
def uptoBulk {H : Type} : DataW H → Nat
  | .lit (.string bytes) => bytes.length + 1
  | .lit _ => 1
  | .nil => 1
  | .ptr d => uptoBulk d + 1
  | .slice elems spare => uptoBulkAll elems + uptoBulkAll spare + 1
  | .agg parts => uptoBulkAll parts + 1
  | .iface _ d => uptoBulk d + 1
  | .map entries => uptoBulkEntries entries + 1
  | .held _ => 1
def uptoBulkAll {H : Type} : List (DataW H) → Nat
  | [] => 0
  | d :: r => uptoBulk d + uptoBulkAll r
def uptoBulkEntries {H : Type} : List (Lit × DataW H) → Nat
  | [] => 0
  | x :: r => uptoBulkEntry x + uptoBulkEntries r
def uptoBulkEntry {H : Type} : Lit × DataW H → Nat
  | (.string bytes, d) => bytes.length + uptoBulk d + 1
  | (_, d) => uptoBulk d + 1
 end
def uptoSmall : (H : Type) → List (DataW H) → Bool := fun _ ds => decide (uptoBulkAll ds ≤ 1048576)
def OpenSpec.upto (s : _root_.Go.ChangeSpec) : _root_.Go.OpenSpec := { _root_.Go.OpenSpec.ofChange s with cond := some uptoSmall }

/-- 'turntablelaw04.ArithDoes', WHERE WHAT IT READS IS OF BULK AT MOST 1048576: true; the input reads as it did. -/
def arithDoesUptoRow : OpenClaim := { program := "ythnkgnbemmndgaa", sum := "3133f273cef961ad828c41634f99743591c971fc2e401988e9fb8fa5b403569d", func := "turntable/turntablelaw04.ArithDoes", spec := "arithDoes", apart := false, narrowed := true }
def ArithDoesUptoSaid : Prop := arithDoesUptoRow.holds Try.pinned (OpenSpec.upto arithDoesSpec)

/-- 'turntablelaw04.ArithSimple', WHERE WHAT IT READS IS OF BULK AT MOST 1048576: true; the input reads as it did. -/
def arithSimpleUptoRow : OpenClaim := { program := "ythnkgnbemmndgaa", sum := "3133f273cef961ad828c41634f99743591c971fc2e401988e9fb8fa5b403569d", func := "turntable/turntablelaw04.ArithSimple", spec := "arithSimple", apart := false, narrowed := true }
def ArithSimpleUptoSaid : Prop := arithSimpleUptoRow.holds Try.pinned (OpenSpec.upto arithSimpleSpec)

/-- 'turntablelaw04.ArithTrue', WHERE WHAT IT READS IS OF BULK AT MOST 1048576: true; the input reads as it did. -/
def arithTrueUptoRow : OpenClaim := { program := "ythnkgnbemmndgaa", sum := "3133f273cef961ad828c41634f99743591c971fc2e401988e9fb8fa5b403569d", func := "turntable/turntablelaw04.ArithTrue", spec := "arithTrue", apart := false, narrowed := true }
def ArithTrueUptoSaid : Prop := arithTrueUptoRow.holds Try.pinned (OpenSpec.upto arithTrueSpec)

/-- 'turntablelaw04.ArithTurns', WHERE WHAT IT READS IS OF BULK AT MOST 1048576: true; the input reads as it did. -/
def arithTurnsUptoRow : OpenClaim := { program := "ythnkgnbemmndgaa", sum := "3133f273cef961ad828c41634f99743591c971fc2e401988e9fb8fa5b403569d", func := "turntable/turntablelaw04.ArithTurns", spec := "arithTurns", apart := false, narrowed := true }
def ArithTurnsUptoSaid : Prop := arithTurnsUptoRow.holds Try.pinned (OpenSpec.upto arithTurnsSpec)

/-- 'turntablelaw01.DigitsPrints', WHERE WHAT IT READS IS OF BULK AT MOST 1048576: true; the input reads as it did. -/
def digitsPrintsUptoRow : OpenClaim := { program := "ythnkgnbemmndgaa", sum := "3133f273cef961ad828c41634f99743591c971fc2e401988e9fb8fa5b403569d", func := "turntable/turntablelaw01.DigitsPrints", spec := "digitsPrints", apart := false, narrowed := true }
def DigitsPrintsUptoSaid : Prop := digitsPrintsUptoRow.holds Try.pinned (OpenSpec.upto digitsPrintsSpec)

/-- 'turntablelaw01.DigitsReads', WHERE WHAT IT READS IS OF BULK AT MOST 1048576: true; the input reads as it did. -/
def digitsReadsUptoRow : OpenClaim := { program := "ythnkgnbemmndgaa", sum := "3133f273cef961ad828c41634f99743591c971fc2e401988e9fb8fa5b403569d", func := "turntable/turntablelaw01.DigitsReads", spec := "digitsReads", apart := false, narrowed := true }
def DigitsReadsUptoSaid : Prop := digitsReadsUptoRow.holds Try.pinned (OpenSpec.upto digitsReadsSpec)

/-- 'turntablelaw01.DigitsBack', WHERE WHAT IT READS IS OF BULK AT MOST 1048576: true; the input reads as it did. -/
def digitsBackUptoRow : OpenClaim := { program := "ythnkgnbemmndgaa", sum := "3133f273cef961ad828c41634f99743591c971fc2e401988e9fb8fa5b403569d", func := "turntable/turntablelaw01.DigitsBack", spec := "digitsBack", apart := false, narrowed := true }
def DigitsBackUptoSaid : Prop := digitsBackUptoRow.holds Try.pinned (OpenSpec.upto digitsBackSpec)

/-- 'turntablelaw01.DigitsOrder', WHERE WHAT IT READS IS OF BULK AT MOST 1048576: true; the input reads as it did. -/
def digitsOrderUptoRow : OpenClaim := { program := "ythnkgnbemmndgaa", sum := "3133f273cef961ad828c41634f99743591c971fc2e401988e9fb8fa5b403569d", func := "turntable/turntablelaw01.DigitsOrder", spec := "digitsOrder", apart := false, narrowed := true }
def DigitsOrderUptoSaid : Prop := digitsOrderUptoRow.holds Try.pinned (OpenSpec.upto digitsOrderSpec)

/-- 'turntablelaw02.TokenNames', WHERE WHAT IT READS IS OF BULK AT MOST 1048576: true; the input reads as it did. -/
def tokenNamesUptoRow : OpenClaim := { program := "ythnkgnbemmndgaa", sum := "3133f273cef961ad828c41634f99743591c971fc2e401988e9fb8fa5b403569d", func := "turntable/turntablelaw02.TokenNames", spec := "tokenNames", unfollowed := true, recurses := true, apart := false, narrowed := true }
def TokenNamesUptoSaid : Prop := tokenNamesUptoRow.holds Try.pinned (OpenSpec.upto tokenNamesSpec)

/-- 'turntablelaw02.TokenBack', WHERE WHAT IT READS IS OF BULK AT MOST 1048576: true; the input reads as it did. -/
def tokenBackUptoRow : OpenClaim := { program := "ythnkgnbemmndgaa", sum := "3133f273cef961ad828c41634f99743591c971fc2e401988e9fb8fa5b403569d", func := "turntable/turntablelaw02.TokenBack", spec := "tokenBack", unfollowed := true, recurses := true, apart := false, narrowed := true }
def TokenBackUptoSaid : Prop := tokenBackUptoRow.holds Try.pinned (OpenSpec.upto tokenBackSpec)

/-- 'turntablelaw02.TokenStands', WHERE WHAT IT READS IS OF BULK AT MOST 1048576: true; the input reads as it did. -/
def tokenStandsUptoRow : OpenClaim := { program := "ythnkgnbemmndgaa", sum := "3133f273cef961ad828c41634f99743591c971fc2e401988e9fb8fa5b403569d", func := "turntable/turntablelaw02.TokenStands", spec := "tokenStands", unfollowed := true, recurses := true, apart := false, narrowed := true }
def TokenStandsUptoSaid : Prop := tokenStandsUptoRow.holds Try.pinned (OpenSpec.upto tokenStandsSpec)

end Rows
end Go.Proofs.Ythnkgnbemmndgaa
