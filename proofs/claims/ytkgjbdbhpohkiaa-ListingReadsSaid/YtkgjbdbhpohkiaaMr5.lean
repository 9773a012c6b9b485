import Derived.Test.YtkgjbdbhpohkiaaMr1
import Derived.ChangeKeysEq
-- from YtkgjbdbhpohkiaaZip
section
namespace Go.Proofs.Ytkgjbdbhpohkiaa.Zip
open Go.RowKit Go.Proofs.YtkgjbdbhpohkiaaW.PrintWords Go.Proofs.YtkgjbdbhpohkiaaW.PrintLast Go.Proofs.YtkgjbdbhpohkiaaW.PrintMore
set_option linter.unusedVariables false
theorem zR {P Q : Prop} (h : P) (q : P → Q := by intro h_; (with_reducible repeat (first | apply Kd.R_alloc | apply Kd.R_drewN | apply Kd.R_drew)); exact h_) : Q := q h
theorem zK {P Q : Prop} (h : P) (q : P → Q := by intro h_; (with_reducible repeat (first | refine blk_drewN ?_ _ | refine blk_drew ?_ | refine blk_alloc ?_ _)); exact h_) : Q := q h
theorem zB {P Q : Prop} (h : P) (q : P → Q := by intro h_; repeat (first | (with_reducible first | exact h_ | apply below_alloc | apply pw_below_drewN | apply below_drew1) | exact h_)) : Q := q h
theorem zC {P Q G : Prop} (h : P) (g : G) (q : P → G → Q := by intro h_ g_; repeat (first | (with_reducible first | exact h_ | apply below_alloc | apply pw_below_drewN | apply below_drew1 | refine below_set ?_ g_) | exact h_)) : Q := q h g
theorem zD {P Q G G' : Prop} (h : P) (g : G) (g' : G') (q : P → G → G' → Q := by intro h_ g_ g2_; repeat (first | (with_reducible first | exact h_ | apply below_alloc | apply pw_below_drewN | apply below_drew1 | refine below_set ?_ g_ | refine below_set ?_ g2_) | exact h_)) : Q := q h g g'
theorem zE {P Q G G' G'' : Prop} (h : P) (g : G) (g' : G') (g'' : G'') (q : P → G → G' → G'' → Q := by intro h_ g_ g2_ g3_; repeat (first | (with_reducible first | exact h_ | apply below_alloc | apply pw_below_drewN | apply below_drew1 | refine below_set ?_ g_ | refine below_set ?_ g2_ | refine below_set ?_ g3_) | exact h_)) : Q := q h g g' g''
theorem zA {P : Prop} (q : P := by (try simp only [List.map_toArray, List.map_cons, List.map_nil]); first | done | rfl | (simp only [List.length_drop, List.length_take]; rfl)) : P := q
theorem zS {P : Prop} (q : P := by first | (with_reducible assumption) | assumption) : P := q
theorem zF {P : Prop} (q : P := by first | rfl | (simp [errW_none, errW_some] <;> rfl) | (simp [*, errW_none, errW_some] <;> rfl)) : P := q
theorem zQ {P : Prop} (q : P := by repeat (first | exact Drawn0.refl _ | apply Drawn0.step)) : P := q
theorem zW {P : Prop} (q : P := by first | exact ⟨rfl, _, World.drewN_drewN _ _ _⟩ | exact ⟨rfl, _, Eq.trans (World.drewN_drewN _ _ _) (congrArg (World.drewN _) (Nat.add_assoc _ _ _))⟩) : P := q
theorem eqA2 {P : Program} {d : Nat} {t e : TypeId} (hu : P.underlying t = some (.array 2 e)) (he : P.underlying e = some (.int .i64)) (h0 : ∀ u0 u1 W, (part e #[u0, u1] (0 * P.cellsOf e)).run P W = .ok u0 W) (h1 : ∀ u0 u1 W, (part e #[u0, u1] (1 * P.cellsOf e)).run P W = .ok u1 W) (hi : (P.info? e).isSome = true) (u v x y : Int) (W : World) :
  (Op.equalIn (d + 1 + 1) t (.agg #[.int .i64 u, .int .i64 v]) (.agg #[.int .i64 x, .int .i64 y])).run P W = .ok (u == x && (v == y)) W := by
 have eqi : ∀ (a b : Int) (W : World), (Op.equalIn (d + 1) e (.int .i64 a) (.int .i64 b)).run P W = .ok (a == b) W := by
  intro a b W
  simp [Op.equalIn, run_underlying he]
 obtain ⟨i, hi⟩ := Option.isSome_iff_exists.mp hi
 rw [run_equalIn_array W (d + 1) _ _ hu hi]
 show (Op.eqItems (d + 1) e (P.cellsOf e) _ _ [0, 1]).run P W = _
 rw [Nat.one_mul] at h1
 simp only [Op.eqItems, Sem.run_bind, h0, eqi, Result.andThen_ok]
 cases h3 : (u == x) <;> cases h4 : (v == y) <;> simp [h1, eqi, h4]
end Go.Proofs.Ytkgjbdbhpohkiaa.Zip
end
