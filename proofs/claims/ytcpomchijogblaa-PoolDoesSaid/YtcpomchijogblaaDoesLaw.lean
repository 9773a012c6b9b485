/- The reference's pool (turntableref12) and the pool's plain functions answer the same. -/
import Derived.Test.YtcpomchijogblaaPPox3
import Derived.Test.YtcpomchijogblaaPPox2
import Derived.Test.YtcpomchijogblaaActsPure
import Derived.Test.YtcpomchijogblaaReachLaw
import Derived.Laws.BitsLemmas
namespace Go.Proofs.Ytcpomchijogblaa.PPo
open Go.RowKit Go.Proofs.YtcpomchijogblaaW.PrintWords Go.Proofs.YtcpomchijogblaaW.PrintLast Go.Proofs.YtcpomchijogblaaW.PrintMore Go.Proofs.Ytcpomchijogblaa.Str
set_option linter.unusedVariables false
set_option linter.unusedSimpArgs false

/-- An object as the reference holds it. -/
def cv (x : S73) : S82 := ⟨x.f0, x.f1⟩
/-- An object that may be, with a mask that may be. -/
structure Ok2 (x : S73) : Prop where
  ob : ObOk x
  m0 : 0 ≤ x.f0.f1
  m1 : x.f0.f1 < 65536
theorem shl_one : ∀ n : Nat, n < 16 → 1 ≤ shl .i64 1 (n : Int) ∧ shl .i64 1 (n : Int) ≤ 32768 := by decide
theorem lawShape2_l0 (n : Int) (h0 : 0 ≤ n) : ∀ (d : Nat) (m i : Int), i = n + d → i ≤ 16 → 0 ≤ m → m < 65536 → ∃ r, 0 ≤ r ∧ r < 65536 ∧ Ev (fun k => turntablelaw12_Shape.l0 k n m i) (n, r) := by
  intro d
  induction d with
  | zero => intro m i hi h16 hm hm2; exact ⟨m, hm, hm2, Ev.step (fun k => by simp only [turntablelaw12_Shape.l0]; rfl) (ev_neg (by omega) (Ev.now _))⟩
  | succ d ih =>
    intro m i hi h16 hm hm2
    have hw : wrap64 (i - 1) = i - 1 := w64 (by omega) (by omega)
    have hs := shl_one (i - 1).toNat (by omega)
    rw [show ((i - 1).toNat : Int) = i - 1 by omega] at hs
    by_cases hc : m ≥ shl .i64 1 (i - 1)
    · have hw2 : wrap64 (m - shl .i64 1 (i - 1)) = m - shl .i64 1 (i - 1) := w64 (by omega) (by omega)
      obtain ⟨r, hr0, hr1, hr⟩ := ih (m - shl .i64 1 (i - 1)) (i - 1) (by omega) (by omega) (by omega) (by omega)
      refine ⟨r, hr0, hr1, Ev.step (fun k => by simp only [turntablelaw12_Shape.l0]; rfl) (ev_pos (by omega) ?_)⟩
      rw [hw, hw2]
      exact ev_pos (by omega) (ev_pos hc hr)
    · obtain ⟨r, hr0, hr1, hr⟩ := ih m (i - 1) (by omega) (by omega) hm hm2
      refine ⟨r, hr0, hr1, Ev.step (fun k => by simp only [turntablelaw12_Shape.l0]; rfl) (ev_pos (by omega) ?_)⟩
      rw [hw]
      exact ev_pos (by omega) (ev_neg hc hr)
theorem lawShape2 (a b : Int) (h0 : 0 ≤ b) (h1 : b < 65536) : ∃ n m, 0 ≤ n ∧ n ≤ 16 ∧ 0 ≤ m ∧ m < 65536 ∧ Ev (fun k => turntablelaw12_Shape.f k a b) (n, m) := by
  have hu : IntKind.u64.wrap a = a % 18446744073709551616 := by simp [IntKind.wrap, IntKind.bits, IntKind.signed]
  have ht : Int.tmod (IntKind.u64.wrap a) 17 = (a % 18446744073709551616) % 17 := by rw [hu, Int.tmod_eq_emod_of_nonneg (by omega)]
  have hw : wrap64 (Int.tmod (IntKind.u64.wrap a) 17) = (a % 18446744073709551616) % 17 := by rw [ht, w64 (by omega) (by omega)]
  have hw2 : wrap64 b = b := w64 (by omega) (by omega)
  obtain ⟨r, hr0, hr1, hr⟩ := lawShape2_l0 ((a % 18446744073709551616) % 17) (by omega) (16 - (a % 18446744073709551616) % 17).toNat b 16 (by omega) (by omega) h0 h1
  refine ⟨(a % 18446744073709551616) % 17, r, by omega, by omega, hr0, hr1, ?_⟩
  unfold turntablelaw12_Shape.f
  rw [hw, hw2]
  exact hr
theorem bitL_pow : ∀ n : Nat, n < 16 → bitL.getD n 0 = ((2 ^ n : Nat) : Int) := by decide
theorem slot_bit (m n : Nat) (hm : m < 65536) (hn : n < 16) : (Go.bits .and .i64 (m : Int) ((2 ^ n : Nat) : Int) != 0) = decide (m / 2 ^ n % 2 = 1) := by
  have hp : 2 ^ n < 2 ^ 16 := Nat.pow_lt_pow_right (by decide) hn
  rw [(bits_nat .i64 16 (by decide) (fun x h0 h1 => by have h1' : x < 65536 := h1; rw [IntKind.wrap_i64]; omega) m (2 ^ n) (by omega) hp).1, ← Nat.testBit_eq_decide_div_mod_eq]
  have h1 : (m &&& 2 ^ n).testBit n = m.testBit n := by rw [Nat.testBit_and, Nat.testBit_two_pow]; simp
  cases h : m.testBit n with
  | true =>
    rw [h] at h1
    have h2 : m &&& 2 ^ n ≠ 0 := fun e => by rw [e, Nat.zero_testBit] at h1; cases h1
    rw [bne_iff_ne]
    omega
  | false =>
    have h2 : m &&& 2 ^ n = 0 := by
      apply Nat.eq_of_testBit_eq
      intro i
      rw [Nat.testBit_and, Nat.testBit_two_pow, Nat.zero_testBit]
      by_cases e : n = i
      · subst e
        rw [h, Bool.false_and]
      · rw [decide_eq_false e, Bool.and_false]
    rw [h2]
    rfl
theorem pointer_ev (sl mk s : Int) (h16 : sl ≤ 16) (h0 : 0 ≤ mk) (h1 : mk < 65536) : Ev (fun k => turntableref03_Pointer.f k sl mk s) (ptrB sl mk s) := by
  unfold turntableref03_Pointer.f ptrB
  by_cases hs0 : s < 0
  · rw [decide_eq_false (show ¬ 0 ≤ s by omega)]
    exact ev_pos hs0 (Ev.now _)
  · by_cases hs1 : s ≥ sl
    · rw [decide_eq_false (show ¬ s < sl by omega), Bool.and_false]
      exact ev_neg hs0 (ev_pos hs1 (Ev.now _))
    · rw [decide_eq_true (show 0 ≤ s by omega), decide_eq_true (show s < sl by omega)]
      obtain ⟨n, rfl⟩ : ∃ n : Nat, s = n := ⟨s.toNat, by omega⟩
      obtain ⟨m, rfl⟩ : ∃ m : Nat, mk = m := ⟨mk.toNat, by omega⟩
      have hn : n < 16 := by omega
      have hm : m < 65536 := by omega
      have hpos : 0 < 2 ^ n := Nat.pow_pos (by decide)
      have hp := power_l0 n (by omega) n 0 (by omega)
      unfold slotB
      rw [Int.toNat_natCast, bitL_pow n hn, slot_bit m n hm hn]
      have hd : Int.tdiv (m : Int) ((2 ^ n : Nat) : Int) = ((m / 2 ^ n : Nat) : Int) := by rw [Int.tdiv_eq_ediv_of_nonneg (by omega)]; rfl
      have hle : m / 2 ^ n ≤ m := Nat.div_le_self _ _
      generalize 2 ^ n = q at hpos hp hd hle ⊢
      generalize m / q = j at hd hle ⊢
      refine ev_neg hs0 (ev_neg hs1 (Ev.bind (g := fun k => turntableref03_power.f k (n : Int)) hp (ev_neg (by omega) ?_)))
      rw [hd, w64 (by omega) (by omega)]
      have ht : Int.tmod (j : Int) 2 = ((j % 2 : Nat) : Int) := by rw [Int.tmod_eq_emod_of_nonneg (by omega)]; rfl
      rw [ht]
      have : (((j % 2 : Nat) : Int) == 1) = decide (j % 2 = 1) := by
        rw [Bool.eq_iff_iff]
        simp only [beq_iff_eq, decide_eq_true_eq]
        omega
      rw [this, Bool.true_and, Bool.true_and]
      exact Ev.now _
theorem cv_rd {L : List S73} {i : Int} (h0 : 0 ≤ i) (h1 : i < (L.length : Int)) : rd_T82 (L.map cv) i = cv (L.getD i.toNat z73) := by
  unfold rd_T82
  rw [List.getD_eq_getElem?_getD, List.getD_eq_getElem?_getD, List.getElem?_map, List.getElem?_eq_getElem (by omega)]
  rfl
theorem ok_at {L : List S73} (ho : ∀ x ∈ L, Ok2 x) {i : Nat} (h : i < L.length) : Ok2 (L.getD i z73) := ho _ (by rw [List.getD_eq_getElem?_getD, List.getElem?_eq_getElem h]; exact List.getElem_mem h)
theorem trap_ev {L : List S73} (ho : ∀ x ∈ L, Ok2 x) (id s : Int) (q : Bool) (hid : id ≤ 9223372036854775807) : Ev (fun k => turntableref12_trap.f k (L.map cv) id s q) (trapP L id s q) := by
  unfold turntableref12_trap.f trapP
  by_cases h0 : id = 0
  · rw [if_pos h0]
    exact ev_pos h0 (Ev.now _)
  · rw [if_neg h0]
    refine ev_neg h0 ?_
    by_cases h1 : id < 0
    · rw [if_pos (.inl h1)]
      exact ev_pos h1 (Ev.step (fun k => by simp only [turntableref12_trap.j0]; rfl) (Ev.now _))
    · refine ev_neg h1 ?_
      by_cases h2 : (L.length : Int) < id
      · rw [if_pos (.inr h2), decide_eq_true (show id > ((L.map cv).length : Int) by rw [List.length_map]; exact h2)]
        exact Ev.step (fun k => by simp only [turntableref12_trap.j0]; rfl) (Ev.now _)
      · rw [if_neg (by omega), decide_eq_false (show ¬ id > ((L.map cv).length : Int) by rw [List.length_map]; omega)]
        have hw : wrap64 (id - 1) = id - 1 := w64 (by omega) (by omega)
        have hx := ok_at ho (show (id - 1).toNat < L.length by omega)
        refine Ev.step (fun k => by simp only [turntableref12_trap.j0]; rfl) ?_
        rw [hw, cv_rd (by omega) (by omega)]
        refine ev_neg (by simp) (ev_pos (by omega) (ev_pos (by rw [List.length_map]; omega) ?_))
        generalize L.getD (id - 1).toNat z73 = x at hx ⊢
        show Ev (fun k => if s < 0 then some 2 else if s ≥ x.f0.f0 then some 2 else (turntableref03_Pointer.f k x.f0.f0 x.f0.f1 s).bind fun t => if (t != q) = true then some 2 else some 0) _
        by_cases h3 : s < 0
        · rw [if_pos (.inl h3)]
          exact ev_pos h3 (Ev.now _)
        · refine ev_neg h3 ?_
          by_cases h4 : s ≥ x.f0.f0
          · rw [if_pos (.inr (.inl h4))]
            exact ev_pos h4 (Ev.now _)
          · refine ev_neg h4 (Ev.bind (pointer_ev x.f0.f0 x.f0.f1 s hx.ob.hi hx.m0 hx.m1) ?_)
            generalize ptrB x.f0.f0 x.f0.f1 s = b
            by_cases h5 : b = q
            · subst h5
              have e : (if s < 0 ∨ x.f0.f0 ≤ s ∨ b ≠ b then (2 : Int) else 0) = 0 := if_neg (fun h => h.elim h3 (fun h => h.elim h4 (fun h => h rfl)))
              rw [e]
              exact ev_neg (by simp) (Ev.now _)
            · have e : (if s < 0 ∨ x.f0.f0 ≤ s ∨ b ≠ q then (2 : Int) else 0) = 2 := if_pos (Or.inr (Or.inr h5))
              rw [e]
              exact ev_pos (by simpa using h5) (Ev.now _)
theorem load_ev {L : List S73} (ho : ∀ x ∈ L, Ok2 x) (id s : Int) (q : Bool) (hid : id ≤ 9223372036854775807) : Ev (fun k => turntableref12_Load.f k (L.map cv) id s q) (loadP L id s q, trapP L id s q) := by
  unfold turntableref12_Load.f
  refine Ev.bind (trap_ev ho id s q hid) ?_
  by_cases ht : trapP L id s q = 0
  · obtain ⟨h1, h2, h3, h4, -⟩ := trapP_zero ht
    have hl := (ok_at ho (show (id - 1).toNat < L.length by omega)).ob.len
    have e : loadP L id s q = (L.getD (id - 1).toNat z73).f1.getD s.toNat 0 := if_pos ht
    rw [e]
    refine ev_pos ht ?_
    rw [ht, w64 (by omega) (by omega), cv_rd (by omega) (by omega)]
    refine (ev_pos (by omega) (ev_pos (by rw [List.length_map]; omega) (ev_pos h3 (ev_pos ?_ ?_))))
    · show s < ((L.getD (id - 1).toNat z73).f1.length : Int)
      omega
    · exact Ev.now _
  · have e : loadP L id s q = 0 := if_neg ht
    rw [e]
    exact ev_neg ht (Ev.now _)
theorem set_map {L : List S73} (i : Nat) (x : S73) : (L.map cv).set i (cv x) = (L.set i x).map cv := by rw [List.map_set]
theorem store_ev {L : List S73} (ho : ∀ x ∈ L, Ok2 x) (hL : L.length ≤ 60) (id s : Int) (q : Bool) (n : Int) (hid : id ≤ 9223372036854775807) :
    Ev (fun k => turntableref12_Store.f k (L.map cv) id s q n) ((if trapP L id s q = 0 then storeL L id s n else L).map cv, trapP L id s q) := by
  unfold turntableref12_Store.f
  refine Ev.bind (trap_ev ho id s q hid) ?_
  by_cases ht : trapP L id s q = 0
  · obtain ⟨h1, h2, h3, h4, -⟩ := trapP_zero ht
    have hx := (ok_at ho (show (id - 1).toNat < L.length by omega)).ob
    have hl := hx.len
    have hh := hx.hi
    have e0 : (if trapP L id s q = 0 then storeL L id s n else L) = storeL L id s n := if_pos ht
    rw [e0]
    refine ev_pos ht ?_
    rw [ht, w64 (by omega) (by omega), cv_rd (by omega) (by omega)]
    refine (ev_pos (by simp; omega) ?_)
    simp only [Option.bind_some, List.nil_append, List.length_map]
    refine ev_pos (by omega) (ev_pos (by omega) (ev_pos (by show ([] : List Int).length + (L.getD (id - 1).toNat z73).f1.length < _; rw [List.length_nil]; omega) ?_))
    refine ev_pos h3 (ev_pos (by show s < ((L.getD (id - 1).toNat z73).f1.length : Int); omega) (ev_pos (by omega) ?_))
    have e : (L.map cv).set (id - 1).toNat (⟨⟨(cv (L.getD (id - 1).toNat z73)).f0.f0, (cv (L.getD (id - 1).toNat z73)).f0.f1⟩, ((cv (L.getD (id - 1).toNat z73)).f1).set s.toNat n⟩ : S82) = (storeL L id s n).map cv := by
      unfold storeL
      rw [← set_map]
      rfl
    rw [e]
    exact Ev.now _
  · have e0 : (if trapP L id s q = 0 then storeL L id s n else L) = L := if_neg ht
    rw [e0]
    exact ev_neg ht (Ev.now _)
theorem slot_ev {L : List S73} (ho : ∀ x ∈ L, Ok2 x) (id s : Int) (hid : id ≤ 9223372036854775807) : Ev (fun k => turntableref12_Slot.f k (L.map cv) id s) (slotP L id s) := by
  unfold turntableref12_Slot.f
  refine Ev.bind (trap_ev ho id s true hid) (Ev.bind (trap_ev ho id s false hid) ?_)
  have h : (trapP L id s true = 1 ∧ trapP L id s false = 1) ∨ (trapP L id s true = 2 ∧ trapP L id s false = 2) ∨ (trapP L id s true = 0) ∨ (trapP L id s true = 2 ∧ trapP L id s false = 0) := by
    unfold trapP
    by_cases h0 : id = 0
    · rw [if_pos h0, if_pos h0]
      exact .inl ⟨rfl, rfl⟩
    · rw [if_neg h0, if_neg h0]
      by_cases h1 : id < 0 ∨ (L.length : Int) < id
      · rw [if_pos h1, if_pos h1]
        exact .inr (.inl ⟨rfl, rfl⟩)
      · rw [if_neg h1, if_neg h1]
        cases ptrB (L.getD (id - 1).toNat z73).f0.f0 (L.getD (id - 1).toNat z73).f0.f1 s <;> simp only [ne_eq, Bool.false_eq_true, Bool.true_eq_false, not_false_eq_true, not_true_eq_false, or_true, or_false, if_true] <;> split <;> simp
  unfold slotP
  rcases h with ⟨a, b⟩ | ⟨a, b⟩ | a | ⟨a, b⟩
  · rw [a, b]; exact Ev.now _
  · rw [a, b]; exact Ev.now _
  · rw [a]; exact Ev.now _
  · rw [a, b]; exact Ev.now _
theorem shape_some (L : List S73) (id : Int) (hid : id ≤ 9223372036854775807) : turntableref12_Shape.f (L.map cv) id = some ((shapeP L id).f0, (shapeP L id).f1) := by
  unfold turntableref12_Shape.f
  rw [List.length_map]
  by_cases h1 : id < 1
  · have e : shapeP L id = ⟨0, 0⟩ := if_pos (Or.inl h1)
    rw [if_pos h1, e]
  · rw [if_neg h1]
    by_cases h2 : (L.length : Int) < id
    · have e : shapeP L id = ⟨0, 0⟩ := if_pos (Or.inr h2)
      rw [if_pos h2, e]
    · have e : shapeP L id = (L.getD (id - 1).toNat z73).f0 := if_neg (by omega)
      rw [e, if_neg h2, w64 (by omega) (by omega), if_pos (by omega), if_pos (by omega), cv_rd (by omega) (by omega)]
      rfl
/-- How many words all objects take. -/
def wordsL : List S73 → Int
  | [] => 0
  | x :: l => 1 + x.f1.length + wordsL l
theorem wordsL_bd : ∀ L : List S73, (∀ x ∈ L, Ok2 x) → 0 ≤ wordsL L ∧ wordsL L ≤ 17 * L.length
  | [], _ => ⟨Int.le_refl _, Int.le_refl _⟩
  | x :: l, h => by
    have := wordsL_bd l (fun y hy => h y (by simp [hy]))
    have hx := (h x (by simp)).ob
    have h1 := hx.len
    have h2 := hx.hi
    unfold wordsL
    rw [List.length_cons]
    omega
theorem wordsL_app : ∀ (L : List S73) (x : S73), wordsL (L ++ [x]) = wordsL L + 1 + x.f1.length
  | [], x => by unfold wordsL wordsL; simp [wordsL]
  | y :: l, x => by
    have := wordsL_app l x
    show 1 + (y.f1.length : Int) + wordsL (l ++ [x]) = 1 + (y.f1.length : Int) + wordsL l + 1 + x.f1.length
    omega
theorem wordsL_set : ∀ (L : List S73) (i : Nat) (x : S73), x.f1.length = (L.getD i z73).f1.length → wordsL (L.set i x) = wordsL L
  | [], _, _, _ => rfl
  | y :: l, 0, x, h => by
    show 1 + (x.f1.length : Int) + wordsL l = 1 + (y.f1.length : Int) + wordsL l
    rw [show x.f1.length = y.f1.length from h]
  | y :: l, i + 1, x, h => by
    show 1 + (y.f1.length : Int) + wordsL (l.set i x) = 1 + (y.f1.length : Int) + wordsL l
    rw [wordsL_set l i x h]
theorem words_l0 (L : List S73) (hL : L.length ≤ 60) : ∀ (l pre : List S73) (n : Int), pre ++ l = L → (∀ x ∈ L, Ok2 x) → 0 ≤ n → n ≤ 17 * pre.length → Ev (fun k => turntableref12_Words.l0 k (L.map cv) n (pre.length : Int)) (n + wordsL l)
  | [], pre, n, e, ho, h0, h1 => by
    rw [List.append_nil] at e
    subst e
    refine Ev.step (fun k => by simp only [turntableref12_Words.l0]; rfl) (ev_neg (by rw [List.length_map]; omega) ?_)
    show Ev _ (n + 0)
    rw [Int.add_zero]
    exact Ev.now _
  | x :: l, pre, n, e, ho, h0, h1 => by
    have hlen : pre.length + (l.length + 1) = L.length := by rw [← e]; simp
    have hrd : rd_T82 (L.map cv) (pre.length : Int) = cv x := by
      rw [cv_rd (by omega) (by omega), Int.toNat_natCast, ← e, List.getD_eq_getElem?_getD, List.getElem?_append_right (Nat.le_refl _)]
      simp
    have hx := (ho x (by rw [← e]; simp)).ob
    have hl := hx.len
    have hh := hx.hi
    have ih := words_l0 L hL l (pre ++ [x]) (n + 1 + x.f1.length) (by rw [← e]; simp) ho (by omega) (by rw [List.length_append]; simp; omega)
    refine Ev.step (fun k => by simp only [turntableref12_Words.l0]; rfl) (ev_pos (by rw [List.length_map]; omega) (ev_pos (by omega) ?_))
    rw [hrd]
    show Ev (fun k => turntableref12_Words.l0 k (L.map cv) (wrap64 (wrap64 (n + 1) + (x.f1.length : Int))) (wrap64 ((pre.length : Int) + 1))) (n + (1 + (x.f1.length : Int) + wordsL l))
    rw [w64 (x := n + 1) (by omega) (by omega), w64 (by omega) (by omega), w64 (by omega) (by omega)]
    rw [List.length_append] at ih
    have e2 : n + (1 + (x.f1.length : Int) + wordsL l) = n + 1 + (x.f1.length : Int) + wordsL l := by omega
    rw [e2]
    simpa using ih
theorem words_ev {L : List S73} (ho : ∀ x ∈ L, Ok2 x) (hL : L.length ≤ 60) : Ev (fun k => turntableref12_Words.f k (L.map cv)) (wordsL L) := by
  have := words_l0 L hL L [] 0 rfl ho (by omega) (by simp)
  rw [Int.zero_add] at this
  exact this
theorem make_some (L : List S73) (hL : L.length ≤ 60) (n m : Int) (h0 : 0 ≤ n) (h1 : n ≤ 16) : turntableref12_Make.f (L.map cv) n m = some ((L ++ [(⟨⟨n, m⟩, List.replicate n.toNat 0⟩ : S73)]).map cv) := by
  unfold turntableref12_Make.f
  rw [if_pos (by simp; omega)]
  simp only [Option.bind_some, List.nil_append]
  rw [if_pos h0, if_pos (by omega), if_pos (by rw [List.length_map]; omega), List.map_append]
  rfl
theorem has_l0 (l : List Int) (y : Int) (hl : l.length ≤ 1000) : ∀ (d i : Nat), i + d = l.length → Ev (fun k => turntableref08_Has.l0 k l y (i : Int)) (decide (y ∈ l.drop i)) := by
  intro d
  induction d with
  | zero =>
    intro i hi
    rw [List.drop_eq_nil_of_le (by omega)]
    exact Ev.step (fun k => by simp only [turntableref08_Has.l0]; rfl) (ev_neg (by omega) (by simp; exact Ev.now _))
  | succ d ih =>
    intro i hi
    have hlt : i < l.length := by omega
    rw [List.drop_eq_getElem_cons hlt]
    have hrd : rd l (i : Int) = l[i] := rd_at_ l i hlt
    refine Ev.step (fun k => by simp only [turntableref08_Has.l0]; rfl) (ev_pos (by omega) (ev_pos (by omega) ?_))
    rw [hrd]
    by_cases h : l[i] = y
    · rw [decide_eq_true (show y ∈ l[i] :: l.drop (i + 1) by rw [h]; simp)]
      exact ev_pos h (Ev.now _)
    · have := ih (i + 1) (by omega)
      rw [show ((i + 1 : Nat) : Int) = wrap64 ((i : Int) + 1) by rw [w64 (by omega) (by omega)]; omega] at this
      have e : decide (y ∈ l[i] :: l.drop (i + 1)) = decide (y ∈ l.drop (i + 1)) := by
        rw [Bool.eq_iff_iff]
        simp only [decide_eq_true_eq, List.mem_cons]
        exact ⟨fun h1 => h1.resolve_left (fun e => h e.symm), .inr⟩
      rw [e]
      exact ev_neg h this
theorem has_ev (l : List Int) (y : Int) (hl : l.length ≤ 1000) : Ev (fun k => turntableref08_Has.f k l y) (decide (y ∈ l)) := by
  have := has_l0 l y hl l.length 0 (by omega)
  rw [List.drop_zero] at this
  exact this
theorem visit_ev {L : List S73} {fs : List Int} {s : List Bool × List Int} (h : RV L fs s) (id : Int) : (1 ≤ id ∧ id ≤ (L.length : Int) ∧ id ∉ s.2 ∧ (visit s id).2 = s.2 ++ [id]) ∨ (¬ (1 ≤ id ∧ id ≤ (L.length : Int) ∧ id ∉ s.2) ∧ visit s id = s) := by
  have hl := h.ok.len
  by_cases hv : visM s.1 id = true
  · obtain ⟨h1, h2, h3⟩ := visM_true hv
    refine .inl ⟨h1, by omega, fun hm => ?_, by unfold PPo.visit; rw [if_pos hv]⟩
    have := (h.met id h1 (by omega)).2 hm
    rw [h3] at this
    cases this
  · refine .inr ⟨fun ⟨h1, h2, h3⟩ => hv ?_, if_neg hv⟩
    have hb : s.1.getD id.toNat false = false := by
      cases hb : s.1.getD id.toNat false with
      | false => rfl
      | true => exact absurd ((h.met id h1 h2).1 hb) h3
    unfold visM
    rw [hb]
    simp only [Bool.not_false, Bool.and_true, Bool.and_eq_true, decide_eq_true_eq]
    exact ⟨h1, by omega⟩
theorem seen_step {L : List S73} {fs : List Int} {s : List Bool × List Int} (h : RV L fs s) (hL : L.length ≤ 60) (y : Int) {g : List Int → Nat → Option (List Int)} {r : List Int} (hg : Ev (fun k => g (visit s y).2 k) r) :
    Ev (fun k => if y ≥ 1 then (if y ≤ (L.length : Int) then ((turntableref08_Has.f k s.2 y).bind fun t => if t = true then g s.2 k else if s.2.length < 17592186044416 then g (s.2 ++ [y]) k else none) else g s.2 k) else g s.2 k) r := by
  have hs := h.ok.short
  rcases visit_ev h y with ⟨h1, h2, h3, h4⟩ | ⟨h1, h2⟩
  · rw [h4] at hg
    refine ev_pos h1 (ev_pos h2 (Ev.bind (has_ev s.2 y (by omega)) ?_))
    rw [decide_eq_false h3]
    exact ev_neg (by simp) (ev_pos (by omega) hg)
  · rw [h2] at hg
    by_cases a : y ≥ 1
    · refine ev_pos a ?_
      by_cases b : y ≤ (L.length : Int)
      · refine ev_pos b (Ev.bind (has_ev s.2 y (by omega)) ?_)
        have hm : y ∈ s.2 := Decidable.byContradiction fun hm => h1 ⟨a, b, hm⟩
        rw [decide_eq_true hm]
        exact ev_pos rfl hg
      · exact ev_neg b hg
    · exact ev_neg a hg
theorem reach_l2 {L : List S73} (ho : ∀ x ∈ L, Ok2 x) (hL : L.length ≤ 60) {fs : List Int} (q : Nat) (id : Int) (x : S31) (c : List Int) (hx0 : x.f0 ≤ 16) (hxm : 0 ≤ x.f1 ∧ x.f1 < 65536) (hc : c.length ≤ 16) (r : List Int) : ∀ (d j : Nat) (s : List Bool × List Int), j + d = c.length → RV L fs s → q < s.2.length → s.2.getD q 0 = id →
    (∀ jj : Nat, jj < c.length → ptrB x.f0 x.f1 (jj : Int) = true → Pts L id (c.getD jj 0)) →
    Ev (fun k => turntableref12_Reach.l1 k (L.map cv) (slotsS x (c.drop j) j s).2 (wrap64 ((q : Int) + 1))) r → Ev (fun k => turntableref12_Reach.l2 k (L.map cv) s.2 (q : Int) (j : Int) x.f0 x.f1 c) r := by
  intro d
  induction d with
  | zero =>
    intro j s hj h hq hid hp hr
    rw [List.drop_eq_nil_of_le (by omega)] at hr
    exact Ev.step (fun k => by simp only [turntableref12_Reach.l2]; rfl) (ev_neg (by omega) hr)
  | succ d ih =>
    intro j s hj h hq hid hp hr
    have hlt : j < c.length := by omega
    have hrd : rd c (j : Int) = c.getD j 0 := rd_nat c j
    rw [slotsS_step x c j s hlt] at hr
    refine Ev.step (fun k => by simp only [turntableref12_Reach.l2]; rfl) ?_
    refine ev_pos (by omega) ?_
    refine ev_pos (by omega) ?_
    refine ((Ev.bind (g := fun k => turntableref03_Pointer.f k x.f0 x.f1 (j : Int)) (pointer_ev x.f0 x.f1 (j : Int) hx0 hxm.1 hxm.2) ?_))
    rw [show wrap64 ((j : Int) + 1) = ((j + 1 : Nat) : Int) by rw [w64 (by omega) (by omega)]; omega, hrd, List.length_map]
    by_cases hb : ptrB x.f0 x.f1 (j : Int) = true
    · rw [if_pos hb] at hr
      refine ev_pos hb ?_
      obtain ⟨hv, -⟩ := h.visit (c.getD j 0) (.inr ⟨q, hq, by rw [hid]; exact hp j hlt hb⟩)
      refine seen_step h hL (c.getD j 0) (g := fun o k => turntableref12_Reach.l2 k (L.map cv) o (q : Int) ((j + 1 : Nat) : Int) x.f0 x.f1 c) ?_
      obtain ⟨v1, v2⟩ := visit_getD s (c.getD j 0) hq
      exact ih (j + 1) _ (by omega) hv v2 (by rw [v1]; exact hid) hp hr
    · rw [if_neg hb] at hr
      refine ev_neg hb ?_
      exact ih (j + 1) s (by omega) h hq hid hp hr
theorem reach_l1 {L : List S73} (ho : ∀ x ∈ L, Ok2 x) (hL : L.length ≤ 60) {fs : List Int} : ∀ (d i : Nat) (s : List Bool × List Int), RV L fs s → L.length + 2 ≤ d + i → Ev (fun k => turntableref12_Reach.l1 k (L.map cv) s.2 (i : Int)) (goS L d i s).2 := by
  intro d
  induction d with
  | zero =>
    intro i s h hk
    have hs := h.ok.short
    exact Ev.step (fun k => by simp only [turntableref12_Reach.l1]; rfl) (ev_neg (by omega) (Ev.now _))
  | succ d ih =>
    intro i s h hk
    have hs := h.ok.short
    by_cases hi : i < s.2.length
    · have hob : ∀ x ∈ L, ObOk x := fun x hx => (ho x hx).ob
      obtain ⟨id, hid⟩ : ∃ id, s.2.getD i 0 = id := ⟨_, rfl⟩
      have hmem : id ∈ s.2 := by rw [← hid, List.getD_eq_getElem?_getD, List.getElem?_eq_getElem hi]; exact List.getElem_mem hi
      obtain ⟨h1, h2⟩ := h.ok.ids id hmem
      have hx := ok_at ho (show (id - 1).toNat < L.length by omega)
      have hlen := hx.ob.len
      have hh := hx.ob.hi
      have hpts := fun jj hjj hb => pts_slots hob h1 h2 jj hjj hb
      rw [goS_step L d i s hi, hid]
      refine Ev.step (fun k => by simp only [turntableref12_Reach.l1]; rfl) (ev_pos (by omega) (ev_pos (by omega) ?_))
      rw [rd_nat, hid, w64 (by omega) (by omega), cv_rd (by omega) (by omega)]
      refine ev_pos (by omega) (ev_pos (by rw [List.length_map]; omega) ?_)
      generalize L.getD (id - 1).toNat z73 = x at hx hlen hh hpts ⊢
      refine reach_l2 ho hL i id x.f0 x.f1 hh ⟨hx.m0, hx.m1⟩ (by omega) _ x.f1.length 0 s (by omega) h hi hid hpts ?_
      rw [List.drop_zero, show wrap64 ((i : Int) + 1) = ((i + 1 : Nat) : Int) by rw [w64 (by omega) (by omega)]; omega]
      obtain ⟨g1, -⟩ := RV.slots i id x.f0 x.f1 0 s h hi hid (fun jj hjj hb => hpts jj hjj (by simpa using hb))
      exact ih (i + 1) _ g1 (by omega)
    · rw [goS_end L (d + 1) i s (by omega)]
      exact Ev.step (fun k => by simp only [turntableref12_Reach.l1]; rfl) (ev_neg (by omega) (Ev.now _))
theorem reach_l0 {L : List S73} (ho : ∀ x ∈ L, Ok2 x) (hL : L.length ≤ 60) (fs : List Int) (hfs : fs.length ≤ 60) : ∀ (d i : Nat) (s : List Bool × List Int), i + d = fs.length → RV L fs s →
    Ev (fun k => turntableref12_Reach.l0 k (L.map cv) fs s.2 (i : Int)) (goS L (L.length + 2) 0 ((fs.drop i).foldl visit s)).2 := by
  intro d
  induction d with
  | zero =>
    intro i s hi h
    rw [List.drop_eq_nil_of_le (by omega)]
    have := reach_l1 ho hL (L.length + 2) 0 s h (by omega)
    exact Ev.step (fun k => by simp only [turntableref12_Reach.l0]; rfl) (ev_neg (by omega) this)
  | succ d ih =>
    intro i s hi h
    have hlt : i < fs.length := by omega
    rw [List.drop_eq_getElem_cons hlt]
    have hrd : rd fs (i : Int) = fs[i] := rd_at_ fs i hlt
    refine Ev.step (fun k => by simp only [turntableref12_Reach.l0]; rfl) (ev_pos (by omega) (ev_pos (by omega) ?_))
    rw [hrd, List.length_map, show wrap64 ((i : Int) + 1) = ((i + 1 : Nat) : Int) by rw [w64 (by omega) (by omega)]; omega]
    obtain ⟨hv, -⟩ := h.visit fs[i] (.inl (List.getElem_mem hlt))
    refine seen_step h hL fs[i] (g := fun o k => turntableref12_Reach.l0 k (L.map cv) fs o ((i + 1 : Nat) : Int)) ?_
    exact ih (i + 1) _ (by omega) hv
theorem reach_ev {L : List S73} (ho : ∀ x ∈ L, Ok2 x) (hL : L.length ≤ 60) (fs : List Int) (hfs : fs.length ≤ 60) : Ev (fun k => turntableref12_Reach.f k (L.map cv) fs) (reachP L fs) := by
  have := reach_l0 ho hL fs hfs fs.length 0 _ (by omega) (RV.new L fs)
  rw [List.drop_zero] at this
  exact this
theorem ints_l0 (l : List Int) (hl : l.length ≤ 1000) : ∀ (d i : Nat), i + d = l.length → Ev (fun k => turntableref05_Ints.l0 k l l (i : Int)) true := by
  intro d
  induction d with
  | zero => intro i hi; exact Ev.step (fun k => by simp only [turntableref05_Ints.l0]; rfl) (ev_neg (by omega) (Ev.now _))
  | succ d ih =>
    intro i hi
    have := ih (i + 1) (by omega)
    rw [show ((i + 1 : Nat) : Int) = wrap64 ((i : Int) + 1) by rw [w64 (by omega) (by omega)]; omega] at this
    exact Ev.step (fun k => by simp only [turntableref05_Ints.l0]; rfl) (ev_pos (by omega) (ev_pos (by omega) (ev_pos (by omega) (ev_pos (show rd l (i : Int) = rd l (i : Int) from rfl) this))))
theorem ints_ev (l : List Int) (hl : l.length ≤ 1000) : Ev (fun k => turntableref05_Ints.f k l l) true := ev_pos rfl (ints_l0 l hl l.length 0 (by omega))
theorem reach_len {L : List S73} (ho : ∀ x ∈ L, ObOk x) (fs : List Int) : (reachP L fs).length ≤ L.length + 1 := by
  obtain ⟨h1, -⟩ := RV.go ho (L.length + 2) 0 _ (RV.fold fs _ (fun _ h => h) (RV.new L fs)) (fun q hq => by omega) (by omega)
  exact h1.ok.short
end Go.Proofs.Ytcpomchijogblaa.PPo
