/- Acts on a pool, as the laws let them be: what they leave, plainly, and in memory. -/
import Derived.Test.YtcpomchijogblaaHPoolWorks
import Derived.Test.YtcpomchijogblaaKeepsPure
import Derived.Test.YtcpomchijogblaaKeepsLaw
namespace Go.Proofs.Ytcpomchijogblaa.PPo
open Go.RowKit Go.Proofs.YtcpomchijogblaaW.PrintWords Go.Proofs.YtcpomchijogblaaW.PrintLast Go.Proofs.YtcpomchijogblaaW.PrintMore Go.Proofs.Ytcpomchijogblaa.Str
set_option linter.unusedVariables false
set_option linter.unusedSimpArgs false

/-- What an act makes of the objects: another object, or a store (fc: of a pointer, whatever the act says). -/
def actP (k : Nat) (fc : Bool) (L : List S73) (x : S25) : Option (List S73) :=
  if x.f0 = 0 then (turntablelaw12_Shape.f k x.f2 x.f5).bind fun q => if 0 ≤ q.1 ∧ q.1 ≤ 16 then some (L ++ [⟨⟨q.1, q.2⟩, List.replicate q.1.toNat 0⟩]) else none
  else if -9223372036854775808 ≤ x.f1 then some (if trapP L x.f1 x.f2 (x.f3 || fc) = 0 then storeL L x.f1 x.f2 x.f4 else L) else none
def actsP (k : Nat) (fc : Bool) : List S25 → List S73 → Option (List S73)
  | [], L => some L
  | x :: l, L => (actP k fc L x).bind (actsP k fc l)
def ActsAt (w0 : World) (g k : Nat) (fc : Bool) (a0 : List S25) (Lend : List S73) (i : Nat) (W : World) : Prop :=
  ∃ (L : List S73) (n : Int) (v : Value) (bs : List Nat), PoolD w0.heap.size (fun k => w0.heap.size ≤ k) W g v bs L n ∧ Below w0.heap.size w0 W ∧ actsP k fc (a0.drop i) L = some Lend ∧ L.length ≤ i ∧ 0 ≤ n ∧ n ≤ 17 * (i : Int)
theorem store_below {w0 W W' : World} {lo : Nat} {ok : Nat → Prop} {g : Nat} {v : Value} {bs : List Nat} {L : List S73} {n : Int} (hP : PoolD lo ok W g v bs L n) (hb : Below lo w0 W) {id s x : Int} {q : Bool} {w1 : World} (hb1 : Below W.heap.size W w1)
    (hw : W' = if trapP L id s q = 0 then w1.setCell ⟨bs.getD (id - 1).toNat 0, s.toNat, none⟩ (.int .i64 x) else w1) (hlo : lo ≤ W.heap.size) :
    PoolD lo ok W' g v bs (if trapP L id s q = 0 then storeL L id s x else L) n ∧ Below lo w0 W' := by
  by_cases ht : trapP L id s q = 0
  · rw [if_pos ht] at hw
    rw [if_pos ht]
    subst hw
    obtain ⟨h1, h2, -, -, -⟩ := trapP_zero ht
    have hsl := hP.slots (id - 1).toNat (by omega)
    exact ⟨(hP.below hb1).stored ht x, Below.setCell (p := ⟨bs.getD (id - 1).toNat 0, s.toNat, none⟩) (hb.trans (hb1.mono hlo)) hsl.1 (.int .i64 x)⟩
  · rw [if_neg ht] at hw
    rw [if_neg ht]
    subst hw
    exact ⟨hP.below hb1, hb.trans (hb1.mono hlo)⟩
theorem acts_stored {w0 W W2 W' : World} {g k : Nat} {fc : Bool} {a0 : List S25} {Lend : List S73} {i : Nat} {v : Value} {bs : List Nat} {L : List S73} {n : Int} (hP : PoolD w0.heap.size (fun k => w0.heap.size ≤ k) W g v bs L n) (hd : Below W.heap.size W W2)
    {id s x : Int} {q : Bool} {w1 : World} (hb1 : Below W2.heap.size W2 w1) (hw : W' = if trapP L id s q = 0 then w1.setCell ⟨bs.getD (id - 1).toNat 0, s.toNat, none⟩ (.int .i64 x) else w1) (hb : Below w0.heap.size w0 W)
    (ha : actsP k fc (a0.drop i) (if trapP L id s q = 0 then storeL L id s x else L) = some Lend) (hl : L.length ≤ i) (hn : 0 ≤ n ∧ n ≤ 17 * (i : Int)) : ActsAt w0 g k fc a0 Lend i W' := by
  obtain ⟨h1, h2⟩ := store_below hP hb (below_step hd hb1) hw (below_size hb)
  exact ⟨_, n, v, bs, h1, h2, ha, by split; rw [storeL_len]; exact hl; exact hl, hn⟩
end Go.Proofs.Ytcpomchijogblaa.PPo
