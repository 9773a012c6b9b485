/-
  No cell of these rows narrows 'for every input' (looked for: loops, veiled, ifaces, maps, wideKeys, modest, calm, conditions, laid).
  DERIVED. THE GIVEN ROWS OF THIS SEAT. 7 by the template 'for every input the law returns true; each argument reads behind the call as it read before'; 0 by the template 'total and deterministic' (their statements: YtcpomchijogblaaTotals.lean).
  GIVEN WITH THE SEED: the statements are not yours to turn. If you find one false, say at which input.
  Laid BY PROGRAM, IN A SANDBOX (cutbox-rows.mjs): the forced cells as the released guide's own fill.sh prints them over the translation bc4747a9c037b273… (all of the seat's roots in one cut). By AI agents, Wed Nov 11 2026. No macro, syntax, notation, axiom, sorry.
-/
import Derived.Test.YtcpomchijogblaaChecked
import GoSem.Claim
import GoSem.ClaimJoined
import GoSem.ClaimMapViews
import Derived.JoinedTies
import Derived.KernelRfl
namespace Go.Proofs.Ytcpomchijogblaa
/- THE CELL 'sum', in the pinned program and in every row, IS THE sha256 OF THE DUMP (.gsa) THAT YtcpomchijogblaaProg.lean LOADS. Nothing in Lean hashes anything: it is a label: what it is worth is what the hold of that sum in a sandbox is worth. -/
noncomputable def Try.pinned : Pinned := { name := "ytcpomchijogblaa", sum := "bc4747a9c037b273068779c6e5a399a3a54ff24f3d6daf181ff866fbab5c820b", checked := Try.checked }
namespace Rows
def none {H : Type} : Left H := { results := [], args := [] }

/-- 'turntablelaw12.PoolKeeps': WHATEVER THE INPUT: true; the input reads as it did. -/
def poolKeepsSpec : ChangeSpec := { name := "poolKeeps", fn := fun _ => fun
  | [d1, d2, d3, d4] => { results := [.lit (.bool true)], args := [d1, d2, d3, d4] }
  | _ => none }
def poolKeepsRow : OpenClaim := { program := "ytcpomchijogblaa", sum := "bc4747a9c037b273068779c6e5a399a3a54ff24f3d6daf181ff866fbab5c820b", func := "turntable/turntablelaw12.PoolKeeps", spec := "poolKeeps", unfollowed := true, recurses := true, apart := false }
def PoolKeepsSaid : Prop := poolKeepsRow.holds Try.pinned (OpenSpec.ofChange poolKeepsSpec)

/-- ITS FALSE NEIGHBOUR: 'it returns false'. Refute it at one input. -/
def poolKeepsWrong : ChangeSpec := { name := "poolKeeps", fn := fun _ => fun
  | [d1, d2, d3, d4] => { results := [.lit (.bool false)], args := [d1, d2, d3, d4] }
  | _ => none }
def PoolKeepsWrongFalsely : Prop := poolKeepsRow.holds Try.pinned (OpenSpec.ofChange poolKeepsWrong)

/-- 'turntablelaw12.PoolReaches': WHATEVER THE INPUT: true; the input reads as it did. -/
def poolReachesSpec : ChangeSpec := { name := "poolReaches", fn := fun _ => fun
  | [d1, d2] => { results := [.lit (.bool true)], args := [d1, d2] }
  | _ => none }
def poolReachesRow : OpenClaim := { program := "ytcpomchijogblaa", sum := "bc4747a9c037b273068779c6e5a399a3a54ff24f3d6daf181ff866fbab5c820b", func := "turntable/turntablelaw12.PoolReaches", spec := "poolReaches", unfollowed := true, recurses := true, apart := false }
def PoolReachesSaid : Prop := poolReachesRow.holds Try.pinned (OpenSpec.ofChange poolReachesSpec)

/-- ITS FALSE NEIGHBOUR: 'it returns false'. Refute it at one input. -/
def poolReachesWrong : ChangeSpec := { name := "poolReaches", fn := fun _ => fun
  | [d1, d2] => { results := [.lit (.bool false)], args := [d1, d2] }
  | _ => none }
def PoolReachesWrongFalsely : Prop := poolReachesRow.holds Try.pinned (OpenSpec.ofChange poolReachesWrong)

/-- 'turntablelaw12.PoolDoes': WHATEVER THE INPUT: true; the input reads as it did. -/
def poolDoesSpec : ChangeSpec := { name := "poolDoes", fn := fun _ => fun
  | [d1, d2, d3] => { results := [.lit (.bool true)], args := [d1, d2, d3] }
  | _ => none }
def poolDoesRow : OpenClaim := { program := "ytcpomchijogblaa", sum := "bc4747a9c037b273068779c6e5a399a3a54ff24f3d6daf181ff866fbab5c820b", func := "turntable/turntablelaw12.PoolDoes", spec := "poolDoes", unfollowed := true, recurses := true, apart := false }
def PoolDoesSaid : Prop := poolDoesRow.holds Try.pinned (OpenSpec.ofChange poolDoesSpec)

/-- ITS FALSE NEIGHBOUR: 'it returns false'. Refute it at one input. -/
def poolDoesWrong : ChangeSpec := { name := "poolDoes", fn := fun _ => fun
  | [d1, d2, d3] => { results := [.lit (.bool false)], args := [d1, d2, d3] }
  | _ => none }
def PoolDoesWrongFalsely : Prop := poolDoesRow.holds Try.pinned (OpenSpec.ofChange poolDoesWrong)

/-- 'turntablelaw05.OpsTells': WHATEVER THE INPUT: true; the input reads as it did. -/
def opsTellsSpec : ChangeSpec := { name := "opsTells", fn := fun _ => fun
  | [d1, d2] => { results := [.lit (.bool true)], args := [d1, d2] }
  | _ => none }
def opsTellsRow : OpenClaim := { program := "ytcpomchijogblaa", sum := "bc4747a9c037b273068779c6e5a399a3a54ff24f3d6daf181ff866fbab5c820b", func := "turntable/turntablelaw05.OpsTells", spec := "opsTells", apart := false }
def OpsTellsSaid : Prop := opsTellsRow.holds Try.pinned (OpenSpec.ofChange opsTellsSpec)

/-- ITS FALSE NEIGHBOUR: 'it returns false'. Refute it at one input. -/
def opsTellsWrong : ChangeSpec := { name := "opsTells", fn := fun _ => fun
  | [d1, d2] => { results := [.lit (.bool false)], args := [d1, d2] }
  | _ => none }
def OpsTellsWrongFalsely : Prop := opsTellsRow.holds Try.pinned (OpenSpec.ofChange opsTellsWrong)

/-- 'turntablelaw05.OpsFinds': WHATEVER THE INPUT: true; the input reads as it did. -/
def opsFindsSpec : ChangeSpec := { name := "opsFinds", fn := fun _ => fun
  | [d] => { results := [.lit (.bool true)], args := [d] }
  | _ => none }
def opsFindsRow : OpenClaim := { program := "ytcpomchijogblaa", sum := "bc4747a9c037b273068779c6e5a399a3a54ff24f3d6daf181ff866fbab5c820b", func := "turntable/turntablelaw05.OpsFinds", spec := "opsFinds", apart := false }
def OpsFindsSaid : Prop := opsFindsRow.holds Try.pinned (OpenSpec.ofChange opsFindsSpec)

/-- ITS FALSE NEIGHBOUR: 'it returns false'. Refute it at one input. -/
def opsFindsWrong : ChangeSpec := { name := "opsFinds", fn := fun _ => fun
  | [d] => { results := [.lit (.bool false)], args := [d] }
  | _ => none }
def OpsFindsWrongFalsely : Prop := opsFindsRow.holds Try.pinned (OpenSpec.ofChange opsFindsWrong)

/-- 'turntablelaw05.OpsBack': WHATEVER THE INPUT: true; the input reads as it did. -/
def opsBackSpec : ChangeSpec := { name := "opsBack", fn := fun _ => fun
  | [d1, d2] => { results := [.lit (.bool true)], args := [d1, d2] }
  | _ => none }
def opsBackRow : OpenClaim := { program := "ytcpomchijogblaa", sum := "bc4747a9c037b273068779c6e5a399a3a54ff24f3d6daf181ff866fbab5c820b", func := "turntable/turntablelaw05.OpsBack", spec := "opsBack", apart := false }
def OpsBackSaid : Prop := opsBackRow.holds Try.pinned (OpenSpec.ofChange opsBackSpec)

/-- ITS FALSE NEIGHBOUR: 'it returns false'. Refute it at one input. -/
def opsBackWrong : ChangeSpec := { name := "opsBack", fn := fun _ => fun
  | [d1, d2] => { results := [.lit (.bool false)], args := [d1, d2] }
  | _ => none }
def OpsBackWrongFalsely : Prop := opsBackRow.holds Try.pinned (OpenSpec.ofChange opsBackWrong)

/-- 'turntablelaw05.OpsApart': WHATEVER THE INPUT: true; the input reads as it did. -/
def opsApartSpec : ChangeSpec := { name := "opsApart", fn := fun _ => fun
  | [d] => { results := [.lit (.bool true)], args := [d] }
  | _ => none }
def opsApartRow : OpenClaim := { program := "ytcpomchijogblaa", sum := "bc4747a9c037b273068779c6e5a399a3a54ff24f3d6daf181ff866fbab5c820b", func := "turntable/turntablelaw05.OpsApart", spec := "opsApart", apart := false }
def OpsApartSaid : Prop := opsApartRow.holds Try.pinned (OpenSpec.ofChange opsApartSpec)

/-- ITS FALSE NEIGHBOUR: 'it returns false'. Refute it at one input. -/
def opsApartWrong : ChangeSpec := { name := "opsApart", fn := fun _ => fun
  | [d] => { results := [.lit (.bool false)], args := [d] }
  | _ => none }
def OpsApartWrongFalsely : Prop := opsApartRow.holds Try.pinned (OpenSpec.ofChange opsApartWrong)

/- THE SECOND FORM. 'bulk': how many values and letters a reading holds, each counted each time it is reached (what is shared counts as often as it is met; a slice's spare places count too). A statement '..UptoSaid' is the law's where the arguments, and the package variables that the reading takes, are together of bulk at most 1048576: NARROWER than '..Said'. Prove '..Said' where nothing that the law and all that it calls make is longer than what came in: it says more and counts as full. Else prove '..UptoSaid'. A law counts once. -/
mutual
def uptoBulk {H : Type} : DataW H → Nat
  | .lit (.string bytes) => bytes.length + 1
  | .lit _ => 1
  | .nil => 1
  | .ptr d => uptoBulk d + 1
  | .slice elems spare => uptoBulkAll elems + uptoBulkAll spare + 1
  | .agg parts => uptoBulkAll parts + 1
  | .iface _ d => uptoBulk d + 1
  | .map entries => uptoBulkEntries entries + 1
  | .held _ => 1
def uptoBulkAll {H : Type} : List (DataW H) → Nat
  | [] => 0
  | d :: r => uptoBulk d + uptoBulkAll r
def uptoBulkEntries {H : Type} : List (Lit × DataW H) → Nat
  | [] => 0
  | x :: r => uptoBulkEntry x + uptoBulkEntries r
def uptoBulkEntry {H : Type} : Lit × DataW H → Nat
  | (.string bytes, d) => bytes.length + uptoBulk d + 1
  | (_, d) => uptoBulk d + 1
 end
def uptoSmall : (H : Type) → List (DataW H) → Bool := fun _ ds => decide (uptoBulkAll ds ≤ 1048576)
def OpenSpec.upto (s : _root_.Go.ChangeSpec) : _root_.Go.OpenSpec := { _root_.Go.OpenSpec.ofChange s with cond := some uptoSmall }

/-- 'turntablelaw12.PoolKeeps', WHERE WHAT IT READS IS OF BULK AT MOST 1048576: true; the input reads as it did. -/
def poolKeepsUptoRow : OpenClaim := { program := "ytcpomchijogblaa", sum := "bc4747a9c037b273068779c6e5a399a3a54ff24f3d6daf181ff866fbab5c820b", func := "turntable/turntablelaw12.PoolKeeps", spec := "poolKeeps", unfollowed := true, recurses := true, apart := false, narrowed := true }
def PoolKeepsUptoSaid : Prop := poolKeepsUptoRow.holds Try.pinned (OpenSpec.upto poolKeepsSpec)

/-- 'turntablelaw12.PoolReaches', WHERE WHAT IT READS IS OF BULK AT MOST 1048576: true; the input reads as it did. -/
def poolReachesUptoRow : OpenClaim := { program := "ytcpomchijogblaa", sum := "bc4747a9c037b273068779c6e5a399a3a54ff24f3d6daf181ff866fbab5c820b", func := "turntable/turntablelaw12.PoolReaches", spec := "poolReaches", unfollowed := true, recurses := true, apart := false, narrowed := true }
def PoolReachesUptoSaid : Prop := poolReachesUptoRow.holds Try.pinned (OpenSpec.upto poolReachesSpec)

/-- 'turntablelaw12.PoolDoes', WHERE WHAT IT READS IS OF BULK AT MOST 1048576: true; the input reads as it did. -/
def poolDoesUptoRow : OpenClaim := { program := "ytcpomchijogblaa", sum := "bc4747a9c037b273068779c6e5a399a3a54ff24f3d6daf181ff866fbab5c820b", func := "turntable/turntablelaw12.PoolDoes", spec := "poolDoes", unfollowed := true, recurses := true, apart := false, narrowed := true }
def PoolDoesUptoSaid : Prop := poolDoesUptoRow.holds Try.pinned (OpenSpec.upto poolDoesSpec)

/-- 'turntablelaw05.OpsTells', WHERE WHAT IT READS IS OF BULK AT MOST 1048576: true; the input reads as it did. -/
def opsTellsUptoRow : OpenClaim := { program := "ytcpomchijogblaa", sum := "bc4747a9c037b273068779c6e5a399a3a54ff24f3d6daf181ff866fbab5c820b", func := "turntable/turntablelaw05.OpsTells", spec := "opsTells", apart := false, narrowed := true }
def OpsTellsUptoSaid : Prop := opsTellsUptoRow.holds Try.pinned (OpenSpec.upto opsTellsSpec)

/-- 'turntablelaw05.OpsFinds', WHERE WHAT IT READS IS OF BULK AT MOST 1048576: true; the input reads as it did. -/
def opsFindsUptoRow : OpenClaim := { program := "ytcpomchijogblaa", sum := "bc4747a9c037b273068779c6e5a399a3a54ff24f3d6daf181ff866fbab5c820b", func := "turntable/turntablelaw05.OpsFinds", spec := "opsFinds", apart := false, narrowed := true }
def OpsFindsUptoSaid : Prop := opsFindsUptoRow.holds Try.pinned (OpenSpec.upto opsFindsSpec)

/-- 'turntablelaw05.OpsBack', WHERE WHAT IT READS IS OF BULK AT MOST 1048576: true; the input reads as it did. -/
def opsBackUptoRow : OpenClaim := { program := "ytcpomchijogblaa", sum := "bc4747a9c037b273068779c6e5a399a3a54ff24f3d6daf181ff866fbab5c820b", func := "turntable/turntablelaw05.OpsBack", spec := "opsBack", apart := false, narrowed := true }
def OpsBackUptoSaid : Prop := opsBackUptoRow.holds Try.pinned (OpenSpec.upto opsBackSpec)

/-- 'turntablelaw05.OpsApart', WHERE WHAT IT READS IS OF BULK AT MOST 1048576: true; the input reads as it did. -/
def opsApartUptoRow : OpenClaim := { program := "ytcpomchijogblaa", sum := "bc4747a9c037b273068779c6e5a399a3a54ff24f3d6daf181ff866fbab5c820b", func := "turntable/turntablelaw05.OpsApart", spec := "opsApart", apart := false, narrowed := true }
def OpsApartUptoSaid : Prop := opsApartUptoRow.holds Try.pinned (OpenSpec.upto opsApartSpec)

end Rows
end Go.Proofs.Ytcpomchijogblaa
