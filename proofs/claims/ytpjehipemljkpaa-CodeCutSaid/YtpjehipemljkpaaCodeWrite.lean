/- What the program's code.Bytes writes for bodies: the bytes that the plain parser reads as those bodies. -/
import Derived.Test.YtpjehipemljkpaaPCox15
import Derived.Test.YtpjehipemljkpaaCodeRead
namespace Go.Proofs.Ytpjehipemljkpaa.CodeLaw
open Go.RowKit Go.Proofs.Ytpjehipemljkpaa.PCo Go.Proofs.YtpjehipemljkpaaW.PrintWords Go.Proofs.YtpjehipemljkpaaW.PrintLast Go.Proofs.YtpjehipemljkpaaW.PrintMore Go.Proofs.Ytpjehipemljkpaa.Str
set_option linter.unusedSimpArgs false
set_option linter.unusedVariables false

theorem or128 (n : Nat) : Go.bits .or .u8 ((n : Int) % 256) 128 = ((n % 128 + 128 : Nat) : Int) := by
  have h : ∀ m : Fin 256, Go.bits .or .u8 ((m.1 : Nat) : Int) 128 = ((m.1 % 128 + 128 : Nat) : Int) := by decide +kernel
  have := h ⟨n % 256, by omega⟩
  rw [show ((n : Int) % 256) = ((n % 256 : Nat) : Int) by omega, this]
  show ((n % 256 % 128 + 128 : Nat) : Int) = _
  omega
theorem put_any : ∀ (n : Nat) (acc : List Int), acc.length + (vint n).length ≤ 140737488355328 → Ev (fun k => code_put.f k acc (n : Int)) (acc ++ vint n) := by
  intro n
  induction n using Nat.strongRecOn with
  | ind n ih =>
    intro acc h
    unfold code_put.f
    refine Ev.step (fun k => by simp only [code_put.l0]; rfl) ?_
    by_cases hn : n < 128
    · rw [vint_small hn] at h ⊢
      rw [List.length_singleton] at h
      refine ev_neg (by omega) (ev_pos (c := acc.length < 140737488355328) (by omega) ?_)
      rw [show (n : Int) % 256 = (n : Int) by omega]
      exact Ev.now _
    · rw [vint_big hn] at h ⊢
      rw [List.length_cons] at h
      refine ev_pos (by omega) (ev_pos (c := acc.length < 140737488355328) (by omega) ?_)
      rw [or128, show (n : Int) / 128 = ((n / 128 : Nat) : Int) by omega]
      have := ih (n / 128) (by omega) (acc ++ [((n % 128 + 128 : Nat) : Int)]) (by rw [List.length_append, List.length_singleton]; omega)
      rw [List.append_assoc] at this
      exact this
theorem put_int {v : Int} {m : Nat} (hv : v = (m : Int)) (acc : List Int) (h : acc.length + (vint m).length ≤ 140737488355328) : Ev (fun k => code_put.f k acc v) (acc ++ vint m) := by
  subst hv; exact put_any m acc h
theorem slotList_l0 (l : List Int) (hl : ∀ v ∈ l, 0 ≤ v ∧ v ≤ 4096) (hs : l.length ≤ 8) : ∀ (d i : Nat) (acc : List Int), l.length - i = d → acc.length + (encL (l.drop i)).length ≤ 140737488355328 → Ev (fun k => code_slotList.l0 k acc l (l.length : Int) (i : Int)) (acc ++ encL (l.drop i)) := by
  intro d
  induction d with
  | zero =>
    intro i acc hd h
    refine Ev.step (fun k => by simp only [code_slotList.l0]; rfl) (ev_neg (by omega) ?_)
    rw [List.drop_eq_nil_of_le (by omega)]
    exact ev_eq (by simp [encL]) (Ev.now _)
  | succ d ih =>
    intro i acc hd h
    have hi : i < l.length := by omega
    refine Ev.step (fun k => by simp only [code_slotList.l0]; rfl) (ev_pos (by omega) (ev_pos (by omega) (ev_pos (by omega) ?_)))
    have e1 : encL (l.drop i) = vint (l[i]).toNat ++ encL (l.drop (i + 1)) := by rw [List.drop_eq_getElem_cons hi]; rfl
    rw [e1, List.length_append] at h
    have hv := hl _ (List.getElem_mem hi)
    rw [rd_at _ i hi]
    refine ev_bind' (put_int (m := (l[i]).toNat) (by rw [u64_wrap]; omega) acc (by omega)) ?_
    have hw : wrap64 ((i : Int) + 1) = ((i + 1 : Nat) : Int) := by rw [w64 (by omega) (by omega)]; omega
    rw [hw, e1, ← List.append_assoc]
    exact ih (i + 1) _ (by omega) (by rw [List.length_append]; omega)
theorem slotList_any (l : List Int) (hs : SlotsOk l) (acc : List Int) (h : acc.length + (encS l).length ≤ 140737488355328) : Ev (fun k => code_slotList.f k acc l) (acc ++ encS l) := by
  unfold encS at h ⊢
  rw [List.length_append] at h
  have h8 := hs.1
  unfold code_slotList.f
  refine ev_bind' (put_int (m := l.length) (by rw [u64_wrap]; omega) acc (by omega)) ?_
  have := slotList_l0 l hs.2 hs.1 _ 0 (acc ++ vint l.length) rfl (by rw [List.length_append]; show _ + (encL l).length ≤ _; omega)
  rw [← List.append_assoc]
  exact this

/-! ### whole numbers, folded -/
theorem xor0 (n : Int) (h : 0 ≤ n ∧ n < 18446744073709551616) : Go.bits .xor .u64 n 0 = n := by
  show IntKind.u64.wrap ((BitVec.ofInt 64 n ^^^ BitVec.ofInt 64 0).toNat : Int) = n
  have e : BitVec.ofInt 64 0 = 0#64 := rfl
  rw [e, BitVec.xor_zero, BitVec.toNat_ofInt, u64_wrap]
  omega
theorem xor1 (n : Int) (h : 0 ≤ n ∧ n < 18446744073709551616) : Go.bits .xor .u64 n 18446744073709551615 = 18446744073709551615 - n := by
  show IntKind.u64.wrap ((BitVec.ofInt 64 n ^^^ BitVec.ofInt 64 18446744073709551615).toNat : Int) = _
  have e : BitVec.ofInt 64 18446744073709551615 = BitVec.allOnes 64 := rfl
  rw [e, BitVec.xor_allOnes, BitVec.toNat_not, BitVec.toNat_ofInt, u64_wrap]
  omega
theorem zig_range {n : Int} (h : zig n < 18446744073709551616) : -9223372036854775808 ≤ n ∧ n < 9223372036854775808 := by
  unfold zig at h
  split at h <;> omega
theorem zig_bits (n : Int) (h : zig n < 18446744073709551616) : Go.bits .xor .u64 (IntKind.u64.wrap ((IntKind.u64.wrap n) * 2)) (IntKind.u64.wrap (n / 9223372036854775808)) = ((zig n : Nat) : Int) := by
  obtain ⟨h1, h2⟩ := zig_range h
  unfold zig
  by_cases h0 : 0 ≤ n
  · rw [if_pos h0, show n / 9223372036854775808 = 0 by omega, show IntKind.u64.wrap 0 = 0 from by rw [u64_wrap]; rfl, xor0 _ (by rw [u64_wrap]; omega)]
    rw [u64_wrap, u64_wrap]; omega
  · rw [if_neg h0, show n / 9223372036854775808 = -1 by omega, show IntKind.u64.wrap (-1) = 18446744073709551615 from by rw [u64_wrap]; rfl, xor1 _ (by rw [u64_wrap]; omega)]
    rw [u64_wrap, u64_wrap]; omega

/-! ### an instruction -/
theorem instBytes_l0 (x : S51) (L : List Int) (hL : L.length ≤ 100) (hr : ∀ p ∈ L, okR x p) : ∀ (d i : Nat) (acc : List Int), L.length - i = d → acc.length + ((L.drop i).flatMap (encP x)).length ≤ 140737488355328 → Ev (fun k => code_instBytes.l0 k acc L (L.length : Int) (i : Int) x.f0 x.f1 x.f2 x.f3 x.f4 x.f5 x.f6.f0 x.f6.f1) (acc ++ (L.drop i).flatMap (encP x)) := by
  intro d
  induction d with
  | zero =>
    intro i acc hd h
    refine Ev.step (fun k => by simp only [code_instBytes.l0]; rfl) (ev_neg (by omega) ?_)
    rw [List.drop_eq_nil_of_le (by omega)]
    exact ev_eq (by simp) (Ev.now _)
  | succ d ih =>
    intro i acc hd h
    have hi : i < L.length := by omega
    refine Ev.step (fun k => by simp only [code_instBytes.l0]; rfl) (ev_pos (by omega) (ev_pos (by omega) (ev_pos (by omega) ?_)))
    have e1 : (L.drop i).flatMap (encP x) = encP x L[i] ++ (L.drop (i + 1)).flatMap (encP x) := by rw [List.drop_eq_getElem_cons hi]; rfl
    rw [e1, List.length_append] at h
    rw [rd_at _ i hi, e1, ← List.append_assoc]
    have hw : wrap64 ((i : Int) + 1) = ((i + 1 : Nat) : Int) := by rw [w64 (by omega) (by omega)]; omega
    rw [hw]
    have hn := ih (i + 1) (acc ++ encP x L[i]) (by omega) (by rw [List.length_append]; omega)
    have hk := hr _ (List.getElem_mem hi)
    generalize L[i] = p at hn hk h ⊢
    by_cases h0 : p = 0
    · subst h0
      replace hk : -1 ≤ x.f1 ∧ x.f1 ≤ 4096 := hk
      refine ev_pos rfl (ev_bind' (put_int (m := (x.f1 + 1).toNat) (by rw [w64 (by omega) (by omega), u64_wrap]; omega) acc ?_) hn)
      have : encP x 0 = vint (x.f1 + 1).toNat := rfl
      rw [this] at h; omega
    refine ev_neg h0 ?_
    by_cases h1 : p = 1
    · subst h1
      replace hk : -1 ≤ x.f2 ∧ x.f2 ≤ 4096 := hk
      refine ev_pos rfl (ev_bind' (put_int (m := (x.f2 + 1).toNat) (by rw [w64 (by omega) (by omega), u64_wrap]; omega) acc ?_) hn)
      have : encP x 1 = vint (x.f2 + 1).toNat := rfl
      rw [this] at h; omega
    refine ev_neg h1 ?_
    by_cases h2 : p = 2
    · subst h2
      replace hk : -1 ≤ x.f3 ∧ x.f3 ≤ 4096 := hk
      refine ev_pos rfl (ev_bind' (put_int (m := (x.f3 + 1).toNat) (by rw [w64 (by omega) (by omega), u64_wrap]; omega) acc ?_) hn)
      have : encP x 2 = vint (x.f3 + 1).toNat := rfl
      rw [this] at h; omega
    refine ev_neg h2 ?_
    by_cases h3 : p = 3
    · subst h3
      replace hk : 0 ≤ x.f4 ∧ x.f4 ≤ 2097152 := hk
      refine ev_pos rfl (ev_bind' (put_int (m := (x.f4).toNat) (by rw [u64_wrap]; omega) acc ?_) hn)
      have : encP x 3 = vint (x.f4).toNat := rfl
      rw [this] at h; omega
    refine ev_neg h3 ?_
    by_cases h4 : p = 4
    · subst h4
      replace hk : zig x.f4 < 18446744073709551616 := hk
      refine ev_pos rfl (ev_bind' (put_int (m := zig x.f4) (zig_bits _ hk) acc ?_) hn)
      have : encP x 4 = vint (zig x.f4) := rfl
      rw [this] at h; omega
    refine ev_neg h4 ?_
    by_cases h5 : p = 5
    · subst h5
      replace hk : SlotsOk x.f5 := hk
      refine ev_pos rfl (ev_bind' (slotList_any x.f5 hk acc ?_) hn)
      have : encP x 5 = encS x.f5 := rfl
      rw [this] at h; omega
    refine ev_neg h5 ?_
    by_cases h6 : p = 6
    · subst h6
      replace hk : 0 ≤ x.f6.f0 ∧ x.f6.f0 ≤ 65536 := hk
      refine ev_pos rfl (ev_bind' (put_int (m := (x.f6.f0).toNat) (by rw [u64_wrap]; omega) acc ?_) hn)
      have : encP x 6 = vint (x.f6.f0).toNat := rfl
      rw [this] at h; omega
    refine ev_neg h6 ?_
    by_cases h7 : p = 7
    · subst h7
      replace hk : (0 ≤ x.f6.f0 ∧ x.f6.f0 ≤ 65536) ∧ 0 ≤ x.f6.f1 ∧ x.f6.f1 ≤ 65536 := hk
      have e7 : encP x 7 = vint (x.f6.f0).toNat ++ vint (x.f6.f1).toNat := rfl
      rw [e7, List.length_append] at h
      rw [e7, ← List.append_assoc] at hn
      rw [e7]
      refine ev_pos rfl (ev_bind' (put_int (m := (x.f6.f0).toNat) (by rw [u64_wrap]; omega) acc (by omega)) (ev_bind' (put_int (m := (x.f6.f1).toNat) (by rw [u64_wrap]; omega) (acc ++ vint (x.f6.f0).toNat) (by rw [List.length_append]; omega)) ?_))
      rw [← List.append_assoc acc]
      exact hn
    refine ev_neg h7 ?_
    have e8 : encP x p = [] := by unfold encP; rw [if_neg h0, if_neg h1, if_neg h2, if_neg h3, if_neg h4, if_neg h5, if_neg h6, if_neg h7]
    rw [e8, List.append_nil] at hn
    rw [e8, List.append_nil]
    exact hn
theorem instBytes_any (x : S51) (hx : GoodI x) (acc : List Int) (h : acc.length + (encI x).length ≤ 140737488355328) : Ev (fun k => code_instBytes.f k acc x.f0 x.f1 x.f2 x.f3 x.f4 x.f5 x.f6.f0 x.f6.f1) (acc ++ encI x) := by
  unfold encI at h ⊢
  rw [List.length_cons] at h
  have ho := piecesL_op hx.p
  have hp := pieces_short x.f0
  unfold code_instBytes.f
  refine ev_pos (c := acc.length < 140737488355328) (by omega) (ev_some (show code_pieces.f x.f0 = some (piecesL x.f0) from rfl) ?_)
  rw [show x.f0 % 256 = x.f0 by omega]
  have := instBytes_l0 x (piecesL x.f0) (by omega) hx.r _ 0 (acc ++ [x.f0]) rfl (by rw [List.length_append, List.length_singleton]; show _ + ((piecesL x.f0).flatMap (encP x)).length ≤ _; omega)
  rw [List.append_assoc] at this
  exact this
/-! ### all bodies -/
theorem bytes_l1 (l : List S47) (i : Int) (f : S47) (hn : f.f2.length ≤ 65536) (hg : ∀ x ∈ f.f2, GoodI x) (R : List Int → List Int) :
    ∀ (d j : Nat) (acc : List Int), f.f2.length - j = d → acc.length + ((f.f2.drop j).flatMap encI).length ≤ 140737488355328 →
      (Ev (fun k => code_Bytes.l0 k (acc ++ (f.f2.drop j).flatMap encI) l (l.length : Int) (wrap64 (i + 1))) (R (acc ++ (f.f2.drop j).flatMap encI))) →
      Ev (fun k => code_Bytes.l1 k acc l (l.length : Int) i f.f2 (f.f2.length : Int) (j : Int)) (R (acc ++ (f.f2.drop j).flatMap encI)) := by
  intro d
  induction d with
  | zero =>
    intro j acc hd h hnext
    rw [List.drop_eq_nil_of_le (by omega)] at hnext ⊢
    simp only [List.flatMap_nil, List.append_nil] at hnext ⊢
    exact Ev.step (fun k => by simp only [code_Bytes.l1]; rfl) (ev_neg (by omega) hnext)
  | succ d ih =>
    intro j acc hd h hnext
    have hj : j < f.f2.length := by omega
    have e1 : (f.f2.drop j).flatMap encI = encI f.f2[j] ++ (f.f2.drop (j + 1)).flatMap encI := by rw [List.drop_eq_getElem_cons hj]; rfl
    rw [e1, List.length_append] at h
    refine Ev.step (fun k => by simp only [code_Bytes.l1]; rfl) (ev_pos (by omega) (ev_pos (by omega) (ev_pos (by omega) ?_)))
    rw [rd51_at _ j hj]
    refine ev_bind' (instBytes_any _ (hg _ (List.getElem_mem hj)) acc (by omega)) ?_
    have hw : wrap64 ((j : Int) + 1) = ((j + 1 : Nat) : Int) := by rw [w64 (by omega) (by omega)]; omega
    rw [hw]
    rw [e1, ← List.append_assoc] at hnext ⊢
    exact ih (j + 1) (acc ++ encI f.f2[j]) (by omega) (by rw [List.length_append]; omega) hnext
theorem bytes_l0 (l : List S47) (hl : l.length ≤ 32) (hg : ∀ f ∈ l, GoodB f) : ∀ (d i : Nat) (acc : List Int), l.length - i = d → acc.length + ((l.drop i).flatMap encB).length ≤ 140737488355328 → Ev (fun k => code_Bytes.l0 k acc l (l.length : Int) (i : Int)) (acc ++ (l.drop i).flatMap encB) := by
  intro d
  induction d with
  | zero =>
    intro i acc hd h
    refine Ev.step (fun k => by simp only [code_Bytes.l0]; rfl) (ev_neg (by omega) ?_)
    rw [List.drop_eq_nil_of_le (by omega)]
    exact ev_eq (by simp) (Ev.now _)
  | succ d ih =>
    intro i acc hd h
    have hi : i < l.length := by omega
    have e1 : (l.drop i).flatMap encB = encB l[i] ++ (l.drop (i + 1)).flatMap encB := by rw [List.drop_eq_getElem_cons hi]; rfl
    rw [e1, List.length_append] at h
    have hb := hg _ (List.getElem_mem hi)
    refine Ev.step (fun k => by simp only [code_Bytes.l0]; rfl) (ev_pos (by omega) (ev_pos (by omega) (ev_pos (by omega) ?_)))
    rw [rd47_at _ i hi]
    have e2 : encB l[i] = encS l[i].f0 ++ (vint l[i].f1.toNat ++ (vint l[i].f2.length ++ l[i].f2.flatMap encI)) := rfl
    rw [e2, List.length_append, List.length_append, List.length_append] at h
    have hz := hb.z
    have hn := hb.n
    refine ev_bind' (slotList_any _ hb.s acc (by omega)) (ev_bind' (put_int (m := l[i].f1.toNat) (by rw [u64_wrap]; omega) (acc ++ encS l[i].f0) (by rw [List.length_append]; omega)) (ev_bind' (put_int (m := l[i].f2.length) (by rw [u64_wrap]; omega) (acc ++ encS l[i].f0 ++ vint l[i].f1.toNat) (by rw [List.length_append, List.length_append]; omega)) ?_))
    have hw : wrap64 ((i : Int) + 1) = ((i + 1 : Nat) : Int) := by rw [w64 (by omega) (by omega)]; omega
    rw [e1, e2]
    generalize hS : encS l[i].f0 = S at h ⊢
    generalize hV : vint l[i].f1.toNat = V at h ⊢
    generalize hW : vint l[i].f2.length = W at h ⊢
    have h0 := ih (i + 1) (acc ++ S ++ V ++ W ++ (l[i].f2.drop 0).flatMap encI) (by omega) (by rw [List.drop_zero, List.length_append, List.length_append, List.length_append, List.length_append]; omega)
    rw [← hw] at h0
    have h1 := bytes_l1 l (i : Int) l[i] hn hb.i (fun s => s ++ (l.drop (i + 1)).flatMap encB) _ 0 (acc ++ S ++ V ++ W) rfl
      (by rw [List.drop_zero, List.length_append, List.length_append, List.length_append]; omega) h0
    refine ev_eq ?_ h1
    show acc ++ S ++ V ++ W ++ (l[i].f2.drop 0).flatMap encI ++ (l.drop (i + 1)).flatMap encB = _
    rw [List.drop_zero]
    simp only [List.append_assoc]
theorem bytes_any (l : List S47) (hl : l.length ≤ 32) (hg : ∀ f ∈ l, GoodB f) (h : (encA l).length ≤ 140737488355328) : Ev (fun k => code_Bytes.f k l) (encA l) := by
  unfold encA at h ⊢
  rw [List.length_append] at h
  unfold code_Bytes.f
  refine ev_bind' (put_int (m := l.length) (by rw [u64_wrap]; omega) [] (by rw [List.length_nil]; omega)) ?_
  have := bytes_l0 l hl hg _ 0 ([] ++ vint l.length) rfl (by rw [List.nil_append]; show _ + (l.flatMap encB).length ≤ _; omega)
  exact this

/-! ### how long the bytes are, and that they are bytes -/
theorem vint_len : ∀ (j n : Nat), n < 2 ^ (7 * j) → 0 < j → (vint n).length ≤ j := by
  intro j
  induction j with
  | zero => intro n h h0; omega
  | succ j ih =>
    intro n h _
    by_cases hn : n < 128
    · rw [vint_small hn, List.length_singleton]; omega
    · rw [vint_big hn, List.length_cons]
      have hj : 0 < j := by
        rcases Nat.eq_zero_or_pos j with rfl | hj
        · simp at h; omega
        · exact hj
      have : n / 128 < 2 ^ (7 * j) := by
        rw [Nat.div_lt_iff_lt_mul (by omega)]
        rw [show 7 * (j + 1) = 7 * j + 7 by omega, Nat.pow_add] at h
        exact h
      have := ih _ this hj
      omega
theorem vint_10 (n : Nat) (h : n < 18446744073709551616) : (vint n).length ≤ 10 := vint_len 10 n (by omega) (by omega)
theorem vint_bytes (n : Nat) : Bytes (vint n) := by
  induction n using Nat.strongRecOn with
  | ind n ih =>
    by_cases hn : n < 128
    · rw [vint_small hn]; intro c hc; rw [List.mem_singleton.1 hc]; omega
    · rw [vint_big hn]
      intro c hc
      rcases List.mem_cons.1 hc with rfl | hc
      · omega
      · exact ih (n / 128) (by omega) c hc
theorem bytes_app {a b : List Int} (ha : Bytes a) (hb : Bytes b) : Bytes (a ++ b) := fun c hc => (List.mem_append.1 hc).elim (ha c) (hb c)
theorem bytes_flat {α : Type} (l : List α) (f : α → List Int) (h : ∀ x ∈ l, Bytes (f x)) : Bytes (l.flatMap f) := fun c hc => by
  obtain ⟨x, hx, hc⟩ := List.mem_flatMap.1 hc
  exact h x hx c hc
theorem flat_len {α : Type} (f : α → List Int) (m : Nat) : ∀ (l : List α), (∀ x ∈ l, (f x).length ≤ m) → (l.flatMap f).length ≤ l.length * m
  | [], _ => by simp
  | x :: l, h => by
    have h1 := h x (by simp)
    have h2 := flat_len f m l (fun y hy => h y (by simp [hy]))
    rw [List.flatMap_cons, List.length_append, List.length_cons, Nat.add_mul]
    omega
theorem encS_fit (l : List Int) (h : SlotsOk l) : (encS l).length ≤ 90 ∧ Bytes (encS l) := by
  refine ⟨?_, bytes_app (vint_bytes _) (bytes_flat _ _ fun x _ => vint_bytes _)⟩
  have h1 := vint_10 l.length (by have := h.1; omega)
  have h2 := flat_len (fun v : Int => vint v.toNat) 10 l (fun v hv => vint_10 _ (by have := h.2 v hv; omega))
  have h3 := h.1
  unfold encS encL
  rw [List.length_append]
  omega
theorem encP_fit (x : S51) (p : Int) (h : okR x p) : (encP x p).length ≤ 90 ∧ Bytes (encP x p) := by
  unfold okR at h
  unfold encP
  by_cases h0 : p = 0
  · rw [if_pos h0] at h ⊢; exact ⟨by have := vint_10 (x.f1 + 1).toNat (by omega); omega, vint_bytes _⟩
  rw [if_neg h0] at h ⊢
  by_cases h1 : p = 1
  · rw [if_pos h1] at h ⊢; exact ⟨by have := vint_10 (x.f2 + 1).toNat (by omega); omega, vint_bytes _⟩
  rw [if_neg h1] at h ⊢
  by_cases h2 : p = 2
  · rw [if_pos h2] at h ⊢; exact ⟨by have := vint_10 (x.f3 + 1).toNat (by omega); omega, vint_bytes _⟩
  rw [if_neg h2] at h ⊢
  by_cases h3 : p = 3
  · rw [if_pos h3] at h ⊢; exact ⟨by have := vint_10 x.f4.toNat (by omega); omega, vint_bytes _⟩
  rw [if_neg h3] at h ⊢
  by_cases h4 : p = 4
  · rw [if_pos h4] at h ⊢; exact ⟨by have := vint_10 (zig x.f4) (by omega); omega, vint_bytes _⟩
  rw [if_neg h4] at h ⊢
  by_cases h5 : p = 5
  · rw [if_pos h5] at h ⊢; exact encS_fit _ h
  rw [if_neg h5] at h ⊢
  by_cases h6 : p = 6
  · rw [if_pos h6] at h ⊢; exact ⟨by have := vint_10 x.f6.f0.toNat (by omega); omega, vint_bytes _⟩
  rw [if_neg h6] at h ⊢
  by_cases h7 : p = 7
  · rw [if_pos h7] at h ⊢
    refine ⟨?_, bytes_app (vint_bytes _) (vint_bytes _)⟩
    have h8 := vint_10 x.f6.f0.toNat (by omega)
    have h9 := vint_10 x.f6.f1.toNat (by omega)
    rw [List.length_append]; omega
  rw [if_neg h7]
  exact ⟨by simp, fun c hc => by simp at hc⟩
theorem encI_fit (x : S51) (h : GoodI x) : (encI x).length ≤ 361 ∧ Bytes (encI x) := by
  have ho := piecesL_op h.p
  have hp := pieces_short x.f0
  refine ⟨?_, ?_⟩
  · have := flat_len (encP x) 90 (piecesL x.f0) (fun p hp => (encP_fit x p (h.r p hp)).1)
    unfold encI
    rw [List.length_cons]; omega
  · intro c hc
    rcases List.mem_cons.1 hc with rfl | hc
    · omega
    · exact bytes_flat _ _ (fun p hp => (encP_fit x p (h.r p hp)).2) c hc
theorem encB_fit (f : S47) (h : GoodB f) : (encB f).length ≤ 23658606 ∧ Bytes (encB f) := by
  have hz := h.z
  have hn := h.n
  obtain ⟨s1, s2⟩ := encS_fit _ h.s
  refine ⟨?_, bytes_app s2 (bytes_app (vint_bytes _) (bytes_app (vint_bytes _) (bytes_flat _ _ fun x hx => (encI_fit x (h.i x hx)).2)))⟩
  have h1 := vint_10 f.f1.toNat (by omega)
  have h2 := vint_10 f.f2.length (by omega)
  have h3 := flat_len encI 361 f.f2 (fun x hx => (encI_fit x (h.i x hx)).1)
  unfold encB
  rw [List.length_append, List.length_append, List.length_append]
  omega
theorem encA_fit (l : List S47) (hl : l.length ≤ 32) (h : ∀ f ∈ l, GoodB f) : (encA l).length ≤ 140737488355328 ∧ Bytes (encA l) := by
  refine ⟨?_, bytes_app (vint_bytes _) (bytes_flat _ _ fun x hx => (encB_fit x (h x hx)).2)⟩
  have h1 := vint_10 l.length (by omega)
  have h2 := flat_len encB 23658606 l (fun x hx => (encB_fit x (h x hx)).1)
  unfold encA
  rw [List.length_append]
  omega

/-! ### alike -/
theorem ints_l0 (l : List Int) (hl : l.length ≤ 9223372036854775806) : ∀ (d i : Nat), l.length - i = d → Ev (fun k => turntableref05_Ints.l0 k l l (i : Int)) true := by
  intro d
  induction d with
  | zero =>
    intro i hd
    exact Ev.step (fun k => by simp only [turntableref05_Ints.l0]; rfl) (ev_neg (by omega) (Ev.now _))
  | succ d ih =>
    intro i hd
    refine Ev.step (fun k => by simp only [turntableref05_Ints.l0]; rfl) (ev_pos (by omega) (ev_pos (by omega) (ev_pos (by omega) (ev_pos (c := rd l (i : Int) = rd l (i : Int)) rfl ?_))))
    have hw : wrap64 ((i : Int) + 1) = ((i + 1 : Nat) : Int) := by rw [w64 (by omega) (by omega)]; omega
    rw [hw]
    exact ih (i + 1) (by omega)
theorem ints_any (l : List Int) (hl : l.length ≤ 9223372036854775806) : Ev (fun k => turntableref05_Ints.f k l l) true := by
  unfold turntableref05_Ints.f
  exact ev_pos rfl (ints_l0 l hl _ 0 rfl)
theorem same_l1 (l : List S47) (i : Nat) (hi : i < l.length) (hf : Fit l[i]) (hnext : Ev (fun k => turntableref32_Same.l0 k l l (wrap64 ((i : Int) + 1))) true) :
    ∀ (d j : Nat), l[i].f2.length - j = d → Ev (fun k => turntableref32_Same.l1 k l l (i : Int) (j : Int)) true := by
  intro d
  induction d with
  | zero =>
    intro j hd
    refine Ev.step (fun k => by simp only [turntableref32_Same.l1]; rfl) (ev_pos (by omega) (ev_pos (by omega) (ev_neg (by rw [rd47_at _ i hi]; omega) hnext)))
  | succ d ih =>
    intro j hd
    have hj : j < l[i].f2.length := by omega
    have hc := hf.c
    refine Ev.step (fun k => by simp only [turntableref32_Same.l1]; rfl) (ev_pos (by omega) (ev_pos (by omega) ?_))
    rw [rd47_at _ i hi]
    refine ev_pos (by omega) (ev_pos (by omega) (ev_pos (by omega) (ev_pos (by omega) ?_)))
    rw [rd51_at _ j hj]
    have hs : Ev (fun k => turntableref32_SameInst.f k l[i].f2[j].f0 l[i].f2[j].f1 l[i].f2[j].f2 l[i].f2[j].f3 l[i].f2[j].f4 l[i].f2[j].f5 l[i].f2[j].f6.f0 l[i].f2[j].f6.f1 l[i].f2[j].f0 l[i].f2[j].f1 l[i].f2[j].f2 l[i].f2[j].f3 l[i].f2[j].f4 l[i].f2[j].f5 l[i].f2[j].f6.f0 l[i].f2[j].f6.f1) true := by
      unfold turntableref32_SameInst.f
      exact ev_pos rfl (ev_pos rfl (ev_pos rfl (ev_pos rfl (ev_pos rfl (ev_pos rfl (ev_pos rfl (ev_bind' (ints_any _ (hf.a _ (List.getElem_mem hj))) (Ev.now _))))))))
    refine ev_bind' hs (ev_pos rfl ?_)
    have hw : wrap64 ((j : Int) + 1) = ((j + 1 : Nat) : Int) := by rw [w64 (by omega) (by omega)]; omega
    rw [hw]
    exact ih (j + 1) (by omega)
theorem same_l0 (l : List S47) (hl : l.length ≤ 9223372036854775806) (hf : ∀ f ∈ l, Fit f) : ∀ (d i : Nat), l.length - i = d → Ev (fun k => turntableref32_Same.l0 k l l (i : Int)) true := by
  intro d
  induction d with
  | zero =>
    intro i hd
    exact Ev.step (fun k => by simp only [turntableref32_Same.l0]; rfl) (ev_neg (by omega) (Ev.now _))
  | succ d ih =>
    intro i hd
    have hi : i < l.length := by omega
    have hfi := hf _ (List.getElem_mem hi)
    refine Ev.step (fun k => by simp only [turntableref32_Same.l0]; rfl) (ev_pos (by omega) (ev_pos (by omega) (ev_pos (by omega) (ev_pos (c := (rd_T47 l (i : Int)).f1 = (rd_T47 l (i : Int)).f1) rfl ?_))))
    have hw : wrap64 ((i : Int) + 1) = ((i + 1 : Nat) : Int) := by rw [w64 (by omega) (by omega)]; omega
    refine ev_bind' (ints_any _ (by rw [rd47_at _ i hi]; exact hfi.p)) (ev_pos rfl (ev_pos trivial ?_))
    exact same_l1 l i hi hfi (by rw [hw]; exact ih (i + 1) (by omega)) _ 0 rfl
theorem same_any (l : List S47) (hl : l.length ≤ 9223372036854775806) (hf : ∀ f ∈ l, Fit f) : Ev (fun k => turntableref32_Same.f k l l) true := by
  unfold turntableref32_Same.f
  exact ev_pos rfl (same_l0 l hl hf _ 0 rfl)

/-! ### what is read may be written -/
theorem instP_zig {s : List Int} (hs : Bytes s) {x : S51} {r : List Int} (h : instP s = some (x, r)) : zig x.f4 < 18446744073709551616 := by
  obtain ⟨⟨op, s1⟩, h1, h2⟩ := Option.bind_eq_some_iff.mp h
  obtain ⟨-, rfl⟩ := upP_some hs h1
  by_cases hp : piecesL (op : Int) = []
  · rw [if_pos hp] at h2; cases h2
  · rw [if_neg hp] at h2
    have key : ∀ (ps : List Int) (y : S51) (s : List Int), Bytes s → zig y.f4 < 18446744073709551616 → ∀ x r, piecesP ps y s = some (x, r) → zig x.f4 < 18446744073709551616 := by
      intro ps
      induction ps with
      | nil => intro y s _ hy x r h; obtain ⟨rfl, rfl⟩ := Prod.mk.inj (Option.some.inj h); exact hy
      | cons p ps ih =>
        intro y s hs hy x r h
        obtain ⟨⟨x1, s1⟩, h1, h2⟩ := Option.bind_eq_some_iff.mp h
        obtain ⟨g1, rfl, -, -⟩ := pieceP_some y p s hs x1 s1 h1
        refine ih x1 s1 (bytes_tail hs) ?_ x r h2
        by_cases h3 : p = 3
        · subst h3
          replace g1 : 0 ≤ x1.f4 ∧ x1.f4 ≤ 2097152 := g1
          unfold zig; rw [if_pos g1.1]; omega
        by_cases h4 : p = 4
        · subst h4; exact g1
        have : x1.f4 = y.f4 := by
          unfold pieceP at h1
          repeat' split at h1
          all_goals first
            | (exfalso; exact h3 (by assumption))
            | (exfalso; exact h4 (by assumption))
            | (obtain ⟨_, _, h5⟩ := Option.map_eq_some_iff.mp h1; rw [← (Prod.mk.inj h5).1])
            | (obtain ⟨_, _, h5⟩ := Option.bind_eq_some_iff.mp h1; obtain ⟨_, _, h6⟩ := Option.map_eq_some_iff.mp h5; rw [← (Prod.mk.inj h6).1])
            | (rw [← (Prod.mk.inj (Option.some.inj h1)).1])
        rw [this]; exact hy
    exact key _ _ _ (bytes_tail hs) (by simp [blankP, zig]) _ _ h2
theorem instsP_zig : ∀ (n : Nat) (s : List Int), Bytes s → ∀ l r, instsP n s = some (l, r) → ∀ x ∈ l, zig x.f4 < 18446744073709551616 := by
  intro n
  induction n with
  | zero => intro s hs l r h; obtain ⟨rfl, rfl⟩ := Prod.mk.inj (Option.some.inj h); simp
  | succ n ih =>
    intro s hs l r h
    obtain ⟨⟨x, s1⟩, h1, h2⟩ := Option.bind_eq_some_iff.mp h
    obtain ⟨⟨l1, r1⟩, h3, h4⟩ := Option.bind_eq_some_iff.mp h2
    obtain ⟨rfl, rfl⟩ := Prod.mk.inj (Option.some.inj h4)
    have ha := instP_zig hs h1
    obtain rfl := instP_some hs h1
    intro y hy
    rcases List.mem_cons.1 hy with rfl | hy
    · exact ha
    · exact ih s1 (bytes_tail hs) l1 r1 h3 y hy
theorem bodyP_zig (s : List Int) (hs : Bytes s) (f : S47) (r : List Int) (h : bodyP s = some (f, r)) : ∀ x ∈ f.f2, zig x.f4 < 18446744073709551616 := by
  obtain ⟨⟨ps, s1⟩, h1, h⟩ := Option.bind_eq_some_iff.mp h
  obtain ⟨⟨sz, s2⟩, h2, h⟩ := Option.bind_eq_some_iff.mp h
  obtain ⟨⟨k, s3⟩, h3, h⟩ := Option.bind_eq_some_iff.mp h
  obtain ⟨⟨code, s4⟩, h4, h5⟩ := Option.bind_eq_some_iff.mp h
  obtain ⟨rfl, rfl⟩ := Prod.mk.inj (Option.some.inj h5)
  obtain ⟨k1, e1⟩ := slotsP_some hs h1
  have b1 : Bytes s1 := bytes_tail (e1 ▸ hs)
  obtain ⟨-, e2⟩ := upP_some b1 h2
  have b2 : Bytes s2 := bytes_tail (e2 ▸ b1)
  obtain ⟨hk, e3⟩ := upP_some b2 h3
  have b3 : Bytes s3 := bytes_tail (e3 ▸ b2)
  exact instsP_zig _ s3 b3 _ _ h4
theorem bodiesP_zig : ∀ (n : Nat) (s : List Int), Bytes s → s.length ≤ 9223372036854775806 → ∀ l r, bodiesP n s = some (l, r) → ∀ f ∈ l, Fit f ∧ ∀ x ∈ f.f2, zig x.f4 < 18446744073709551616 := by
  intro n
  induction n with
  | zero => intro s hs hl l r h; obtain ⟨rfl, rfl⟩ := Prod.mk.inj (Option.some.inj h); simp
  | succ n ih =>
    intro s hs hl l r h
    obtain ⟨⟨x, s1⟩, h1, h2⟩ := Option.bind_eq_some_iff.mp h
    obtain ⟨⟨l1, r1⟩, h3, h4⟩ := Option.bind_eq_some_iff.mp h2
    obtain ⟨rfl, rfl⟩ := Prod.mk.inj (Option.some.inj h4)
    have ha := bodyP_zig s hs _ _ h1
    have hb := fits_of s hs hl _ _ h1
    obtain rfl := bodyP_some hs h1
    intro y hy
    rcases List.mem_cons.1 hy with rfl | hy
    · exact ⟨hb, ha⟩
    · exact ih s1 (bytes_tail hs) (by rw [List.length_append] at hl; omega) l1 r1 h3 y hy
/-- What the parser read. -/
theorem readP_some {b : List Int} (hb : Bytes b) (hl : b.length ≤ 9223372036854775806) {l : List S47} (h : readP b = some l) : b = encA l ∧ l.length ≤ 32 ∧ ∀ f ∈ l, Fit f ∧ ∀ x ∈ f.f2, zig x.f4 < 18446744073709551616 := by
  obtain ⟨⟨l1, r⟩, h1, h2⟩ := Option.bind_eq_some_iff.mp h
  by_cases hr : r = []
  · rw [if_pos hr] at h2
    obtain rfl := Option.some.inj h2
    subst hr
    have e := allP_some hb h1
    rw [List.append_nil] at e
    refine ⟨e, ?_⟩
    obtain ⟨⟨n, s1⟩, h3, h4⟩ := Option.bind_eq_some_iff.mp h1
    obtain ⟨hn, e3⟩ := upP_some hb h3
    have b1 : Bytes s1 := bytes_tail (e3 ▸ hb)
    have hl1 : s1.length ≤ 9223372036854775806 := by rw [e3, List.length_append] at hl; omega
    obtain ⟨g1, -⟩ := bodiesP_some n s1 b1 _ _ h4
    exact ⟨by show l1.length ≤ 32; omega, bodiesP_zig n s1 b1 hl1 _ _ h4⟩
  · rw [if_neg hr] at h2; cases h2
theorem readP_enc {l : List S47} (hl : l.length ≤ 32) (h : ∀ f ∈ l, GoodB f) : readP (encA l) = some l := by
  unfold readP
  have := allP_enc hl h []
  rw [List.append_nil] at this
  rw [this]
  rfl
theorem chkL_at (funcs : Int) : ∀ (l : List S47) (i : Nat), 0 ≤ (chkL funcs l i).2 ∧ (chkL funcs l i).2 ≤ (i + l.length : Nat)
  | [], i => by simp [chkL]
  | f :: r, i => by
    unfold chkL
    split
    · have := chkL_at funcs r (i + 1)
      rw [List.length_cons]; omega
    · rw [List.length_cons]
      show 0 ≤ (i : Int) ∧ (i : Int) ≤ _
      omega
theorem chk_at (l : List S47) (hl : l.length ≤ 32) : 0 ≤ (chk l).2 ∧ (chk l).2 ≤ 32 := by
  unfold chk
  rw [if_neg (by omega)]
  have := chkL_at (l.length : Int) l 0
  omega
/-- An end that is missing is missed. -/
theorem readP_cut {l : List S47} (hl : l.length ≤ 32) (h : ∀ f ∈ l, GoodB f) (m : Nat) (hm : m < (encA l).length) {l2 : List S47} (h2 : readP ((encA l).take m) = some l2) : ¬ (chk l2).1 = 0 := by
  intro h0
  obtain ⟨hn, hby⟩ := encA_fit l hl h
  have hb : Bytes ((encA l).take m) := fun c hc => hby c (List.mem_of_mem_take hc)
  have hln : ((encA l).take m).length ≤ 9223372036854775806 := by rw [List.length_take]; omega
  obtain ⟨e, -, hf⟩ := readP_some hb hln h2
  obtain ⟨g1, g2⟩ := good_all (fun f hf' x hx => (hf f hf').2 x hx) h0
  have a1 := allP_enc g1 g2 ((encA l).drop m)
  rw [← e, List.take_append_drop] at a1
  have a2 := allP_enc hl h []
  rw [List.append_nil, a1] at a2
  have a3 := (Prod.mk.inj (Option.some.inj a2)).2
  have := congrArg List.length a3
  rw [List.length_drop, List.length_nil] at this
  omega
end Go.Proofs.Ytpjehipemljkpaa.CodeLaw
