import Derived.Test.YtkgjbdbhpohkiaaMw31
import Derived.Test.YtkgjbdbhpohkiaaMw19
import Derived.Test.YtkgjbdbhpohkiaaMw28
import Derived.Test.YtkgjbdbhpohkiaaRows
import Derived.WalkKit
import Derived.ProofKit
import Derived.OpenShut
import Derived.ShutString
import Derived.ChangeOld
import Derived.Below
import Derived.SizedLaws
-- from YtkgjbdbhpohkiaaLiText
section
namespace Go.Proofs.Ytkgjbdbhpohkiaa.LiText
open Go.RowKit Go.Proofs.YtkgjbdbhpohkiaaW.PrintWords Go.Proofs.YtkgjbdbhpohkiaaW.PrintLast Go.Proofs.YtkgjbdbhpohkiaaW.PrintMore Go.Proofs.Ytkgjbdbhpohkiaa.Str Go.Proofs.Ytkgjbdbhpohkiaa.Dig Go.Proofs.Ytkgjbdbhpohkiaa.DigLaw Go.Proofs.Ytkgjbdbhpohkiaa.CodeLaw Go.Proofs.Ytkgjbdbhpohkiaa.PLi Go.Proofs.Ytkgjbdbhpohkiaa.LiRead
set_option linter.unusedSimpArgs false
set_option linter.unusedVariables false
def lettP (op p : Int) : List UInt8 := if p = 0 then [100] else if p = 1 then (if op = 21 then [102] else [97]) else if p = 2 then [98] else if p = 3 then [110] else if p = 4 then [110] else if p = 5 then [108] else if p = 6 then [111] else if p = 7 then [111, 116] else []
theorem parts_pieces : ∀ n : Fin 31, (partsT n).data.toList = (piecesL ((n : Nat) : Int)).flatMap (lettP ((n : Nat) : Int)) := by decide +kernel
def okC (x : S37) (c : UInt8) : Prop :=
  if c = 100 then -1 ≤ x.f1 ∧ x.f1 ≤ 4095 else if c = 97 then -1 ≤ x.f2 ∧ x.f2 ≤ 4095 else if c = 98 then -1 ≤ x.f3 ∧ x.f3 ≤ 4095 else if c = 102 then 0 ≤ x.f2 ∧ x.f2 ≤ 31
  else if c = 110 then -9223372036854775808 ≤ x.f4 ∧ x.f4 ≤ 9223372036854775807 else if c = 108 then x.f5.length ≤ 8 ∧ ∀ v ∈ x.f5, 0 ≤ v ∧ v ≤ 4095
  else if c = 111 then 0 ≤ x.f6.f0 ∧ x.f6.f0 ≤ 65535 else if c = 116 then 0 ≤ x.f6.f1 ∧ x.f6.f1 ≤ 65535 else False
def setC (x y : S37) (c : UInt8) : S37 :=
  if c = 100 then ⟨y.f0, x.f1, y.f2, y.f3, y.f4, y.f5, y.f6⟩ else if c = 97 then ⟨y.f0, y.f1, x.f2, y.f3, y.f4, y.f5, y.f6⟩ else if c = 98 then ⟨y.f0, y.f1, y.f2, x.f3, y.f4, y.f5, y.f6⟩ else if c = 102 then ⟨y.f0, y.f1, x.f2, y.f3, y.f4, y.f5, y.f6⟩
  else if c = 110 then ⟨y.f0, y.f1, y.f2, y.f3, x.f4, y.f5, y.f6⟩ else if c = 108 then ⟨y.f0, y.f1, y.f2, y.f3, y.f4, x.f5, y.f6⟩ else if c = 111 then ⟨y.f0, y.f1, y.f2, y.f3, y.f4, y.f5, ⟨x.f6.f0, y.f6.f1⟩⟩ else if c = 116 then ⟨y.f0, y.f1, y.f2, y.f3, y.f4, y.f5, ⟨y.f6.f0, x.f6.f1⟩⟩ else y
theorem set_letters (x y : S37) (op p : Int) : (lettP op p).foldl (setC x) y = setP x y p := by
  unfold lettP setP
  by_cases h0 : p = 0
  · simp [h0, setC]
  by_cases h1 : p = 1
  · by_cases ho : op = 21 <;> simp [h1, ho, setC]
  by_cases h2 : p = 2
  · simp [h2, setC]
  by_cases h3 : p = 3
  · simp [h3, setC]
  by_cases h4 : p = 4
  · simp [h4, setC]
  by_cases h5 : p = 5
  · simp [h5, setC]
  by_cases h6 : p = 6
  · simp [h6, setC]
  by_cases h7 : p = 7
  · simp [h7, setC]
  simp [h0, h1, h2, h3, h4, h5, h6, h7]
theorem fold_letters (x : S37) (op : Int) : ∀ (ps : List Int) (y : S37), (ps.flatMap (lettP op)).foldl (setC x) y = ps.foldl (setP x) y := by
  intro ps
  induction ps with
  | nil => intro y; rfl
  | cons p ps ih => intro y; rw [List.flatMap_cons, List.foldl_append, set_letters, ih, List.foldl_cons]
theorem ok_letters (x : S37) (p : Int) (h : okW x p) : ∀ c ∈ lettP x.f0 p, okC x c := by
  intro c hc
  unfold lettP at hc
  unfold okW at h
  by_cases h0 : p = 0
  · rw [if_pos h0] at h hc; rw [List.mem_singleton] at hc; subst hc; exact h
  rw [if_neg h0] at h hc
  by_cases h1 : p = 1
  · rw [if_pos h1] at h hc
    by_cases ho : x.f0 = 21
    · rw [if_pos ho, List.mem_singleton] at hc; subst hc; exact h.1 ho
    · rw [if_neg ho, List.mem_singleton] at hc; subst hc; exact h.2 ho
  rw [if_neg h1] at h hc
  by_cases h2 : p = 2
  · rw [if_pos h2] at h hc; rw [List.mem_singleton] at hc; subst hc; exact h
  rw [if_neg h2] at h hc
  by_cases h3 : p = 3
  · rw [if_pos h3] at h hc; rw [List.mem_singleton] at hc; subst hc; exact h
  rw [if_neg h3] at h hc
  by_cases h4 : p = 4
  · rw [if_pos h4] at h hc; rw [List.mem_singleton] at hc; subst hc; exact h
  rw [if_neg h4] at h hc
  by_cases h5 : p = 5
  · rw [if_pos h5] at h hc; rw [List.mem_singleton] at hc; subst hc; exact h
  rw [if_neg h5] at h hc
  by_cases h6 : p = 6
  · rw [if_pos h6] at h hc; rw [List.mem_singleton] at hc; subst hc; exact h
  rw [if_neg h6] at h hc
  by_cases h7 : p = 7
  · rw [if_pos h7] at h hc
    rcases List.mem_cons.mp hc with rfl | hc
    · exact h.1
    · rw [List.mem_singleton] at hc; subst hc; exact h.2
  rw [if_neg h7] at hc
  cases hc
structure InstOk (x : S37) (n : Nat) : Prop where
  op : x.f0 = (n : Int)
  le : n ≤ 30
  ne : piecesL (n : Int) ≠ []
  ok : ∀ c ∈ (partsT n).data.toList, okC x c
  e : (partsT n).data.toList.foldl (setC x) ⟨(n : Int), -1, -1, -1, 0, [], ⟨0, 0⟩⟩ = x
theorem piecesL_in {op : Int} (h : piecesL op ≠ []) : 1 ≤ op ∧ op ≤ 30 := by
  unfold piecesL at h
  by_cases g : 1 ≤ op ∧ op ≤ 30
  · exact g
  · exfalso
    apply h
    repeat rw [if_neg (by omega)]
theorem inst_ok {x : S37} (h : GoodI x) : ∃ n, InstOk x n := by
  have hb := piecesL_in h.ne
  obtain ⟨n, hn⟩ := Int.eq_ofNat_of_zero_le (show 0 ≤ x.f0 by omega)
  have hn30 : n ≤ 30 := by omega
  have hp := parts_pieces ⟨n, by omega⟩
  replace hp : (partsT n).data.toList = (piecesL (n : Int)).flatMap (lettP (n : Int)) := hp
  refine ⟨n, hn, hn30, by rw [← hn]; exact h.ne, ?_, ?_⟩
  · rw [hp, ← hn]
    intro c hc
    obtain ⟨p, hp1, hp2⟩ := List.mem_flatMap.mp hc
    exact ok_letters x p (h.r p hp1) c hp2
  · rw [hp, fold_letters, ← hn]
    exact h.e
def slotW (s : Int) : List UInt8 := if s < 0 then [95] else 115 :: digs s
def joinS (ws : List (List UInt8)) : List UInt8 := Lib.join ws [32]
def listL (l : List Int) : List UInt8 := 40 :: joinS (l.map slotW) ++ [41]
def letterL (x : S37) (c : UInt8) : List UInt8 :=
  if c = 100 then slotW x.f1 else if c = 97 then slotW x.f2 else if c = 98 then slotW x.f3 else if c = 102 then 102 :: digs x.f2 else if c = 110 then digs x.f4 else if c = 108 then listL x.f5 else if c = 111 then 64 :: digs x.f6.f0 else if c = 116 then 64 :: digs x.f6.f1 else []
def instL (x : S37) (n : Nat) : List UInt8 := joinS ((wordT n).data.toList :: (partsT n).data.toList.map (letterL x))
theorem digs_len (n : Int) (h0 : -9223372036854775808 ≤ n) (h1 : n ≤ 9223372036854775807) : (digs n).length ≤ 20 := by
  have := pd_len 19 n.natAbs (by omega)
  unfold digs
  split
  · simp
  · split
    · rw [List.length_cons]; omega
    · omega
theorem slotW_len (s : Int) (h0 : -1 ≤ s) (h1 : s ≤ 4095) : (slotW s).length ≤ 21 := by
  have := digs_len s (by omega) (by omega)
  unfold slotW
  split
  · simp
  · rw [List.length_cons]; omega
theorem slot_some (s : Int) (h0 : -1 ≤ s) (h1 : s ≤ 4095) : listing_slot.f s = some (mk (slotW s)) := by
  unfold listing_slot.f slotW
  by_cases h : s < 0
  · rw [if_pos h, if_pos h]
  · have hl := digs_len s (by omega) (by omega)
    rw [if_neg h, if_neg h, small_some s (by omega) (by omega)]
    show (if 1 + (mk (digs s)).size ≤ _ then _ else _) = _
    rw [if_pos (by rw [mk_size]; omega), show (⟨#[115]⟩ : ByteArray) = mk [115] from rfl, mk_append]
    rfl
theorem joinTail_cons (w : List UInt8) (ws : List (List UInt8)) : Lib.joinTail [32] (w :: ws) = 32 :: (w ++ Lib.joinTail [32] ws) := by
  unfold Lib.joinTail
  rw [List.map_cons, List.flatten_cons]
  rfl
theorem joinS_cons (w : List UInt8) (ws : List (List UInt8)) : joinS (w :: ws) = w ++ Lib.joinTail [32] ws := Lib.join_cons w ws [32]
theorem joinTail_len (m : Nat) : ∀ ws : List (List UInt8), (∀ w ∈ ws, w.length ≤ m) → (Lib.joinTail [32] ws).length ≤ ws.length * (m + 1) := by
  intro ws
  induction ws with
  | nil => intro _; simp [Lib.joinTail]
  | cons w ws ih =>
    intro h
    rw [joinTail_cons, List.length_cons, List.length_append, List.length_cons, Nat.succ_mul]
    have h1 := h w (by simp)
    have h2 := ih (fun v hv => h v (by simp [hv]))
    omega
theorem joinS_len (m : Nat) (ws : List (List UInt8)) (h : ∀ w ∈ ws, w.length ≤ m) : (joinS ws).length ≤ ws.length * (m + 1) := by
  cases ws with
  | nil => simp [joinS, Lib.join]
  | cons w ws =>
    rw [joinS_cons, List.length_append, List.length_cons, Nat.succ_mul]
    have h1 := h w (by simp)
    have h2 := joinTail_len m ws (fun v hv => h v (by simp [hv]))
    omega
theorem joinB_mk (ws : List (List UInt8)) : joinB (ws.map mk) (mk [32]) = mk (joinS ws) := by
  unfold joinB joinS
  rw [List.map_map, show ((fun x : ByteArray => x.data.toList) ∘ mk) = id from rfl, List.map_id]
theorem join_some (ws : List (List UInt8)) (hl : ws.length ≤ 1000000) (h : (joinS ws).length ≤ 140737488355328) : strings_Join.f (ws.map mk) (mk [32]) = some (mk (joinS ws)) := by
  unfold strings_Join.f
  rw [joinB_mk, if_pos ⟨by rw [List.length_map]; omega, by rw [mk_size]; exact h⟩]
theorem listL_len (l : List Int) (h : ∀ v ∈ l, 0 ≤ v ∧ v ≤ 4095) : (listL l).length ≤ 2 + 22 * l.length := by
  unfold listL
  have := joinS_len 21 (l.map slotW) (fun w hw => by
    obtain ⟨v, hv, rfl⟩ := List.mem_map.mp hw
    exact slotW_len v (by have := h v hv; omega) (by have := h v hv; omega))
  rw [List.length_map] at this
  simp only [List.length_append, List.length_cons, List.length_nil]
  omega
theorem list_l0 (l : List Int) (hl : l.length ≤ 8) (h : ∀ v ∈ l, 0 ≤ v ∧ v ≤ 4095) : ∀ (d i : Nat), l.length - i = d → i ≤ l.length → Ev (fun k => listing_list.l0 k (((l.take i).map slotW).map mk) l (l.length : Int) (i : Int)) (mk (listL l)) := by
  intro d
  induction d with
  | zero =>
    intro i hd hi
    have hlen := listL_len l h
    have e : l.take i = l := List.take_of_length_le (by omega)
    have hj : (joinS (l.map slotW)).length ≤ 200 := by unfold listL at hlen; simp only [List.length_append, List.length_cons, List.length_nil] at hlen; omega
    rw [e]
    refine Ev.step (fun k => by simp only [listing_list.l0]; rfl) (ev_neg (by omega) (ev_some (join_some (l.map slotW) (by rw [List.length_map]; omega) (by omega)) (ev_pos (c := 1 + (mk (joinS (l.map slotW))).size ≤ 9223372036854775807) (by rw [mk_size]; omega) ?_)))
    rw [show (⟨#[40]⟩ : ByteArray) = mk [40] from rfl, show (⟨#[41]⟩ : ByteArray) = mk [41] from rfl, mk_append]
    refine ev_pos (by rw [mk_size]; simp; omega) ?_
    rw [mk_append]
    exact Ev.now _
  | succ d ih =>
    intro i hd hi
    have hi' : i < l.length := by omega
    have hv := h _ (List.getElem_mem hi')
    have hw : wrap64 ((i : Int) + 1) = ((i + 1 : Nat) : Int) := by rw [w64 (by omega) (by omega)]; omega
    refine Ev.step (fun k => by simp only [listing_list.l0]; rfl) (ev_pos (by omega) (ev_pos (by omega) (ev_pos (by omega) ?_)))
    rw [rd_at l i hi']
    refine ev_some (slot_some _ (by omega) hv.2) (ev_pos (by rw [List.length_map, List.length_map, List.length_take]; omega) ?_)
    have hr := ih (i + 1) (by omega) (by omega)
    rw [List.take_succ_eq_append_getElem hi', List.map_append, List.map_append] at hr
    rw [hw]
    exact hr
theorem list_ev (l : List Int) (hl : l.length ≤ 8) (h : ∀ v ∈ l, 0 ≤ v ∧ v ≤ 4095) : Ev (fun k => listing_list.f k l) (mk (listL l)) := list_l0 l hl h _ 0 rfl (Nat.zero_le _)
theorem letter_len (x : S37) (c : UInt8) (h : okC x c) : (letterL x c).length ≤ 22 + 22 * x.f5.length := by
  unfold okC at h
  unfold letterL
  by_cases h0 : c = 100
  · rw [if_pos h0] at h ⊢; have := slotW_len _ h.1 h.2; omega
  rw [if_neg h0] at h ⊢
  by_cases h1 : c = 97
  · rw [if_pos h1] at h ⊢; have := slotW_len _ h.1 h.2; omega
  rw [if_neg h1] at h ⊢
  by_cases h2 : c = 98
  · rw [if_pos h2] at h ⊢; have := slotW_len _ h.1 h.2; omega
  rw [if_neg h2] at h ⊢
  by_cases h3 : c = 102
  · rw [if_pos h3] at h ⊢; have := digs_len x.f2 (by omega) (by omega); rw [List.length_cons]; omega
  rw [if_neg h3] at h ⊢
  by_cases h4 : c = 110
  · rw [if_pos h4] at h ⊢; have := digs_len _ h.1 h.2; omega
  rw [if_neg h4] at h ⊢
  by_cases h5 : c = 108
  · rw [if_pos h5] at h ⊢; have := listL_len _ h.2; omega
  rw [if_neg h5] at h ⊢
  by_cases h6 : c = 111
  · rw [if_pos h6] at h ⊢; have := digs_len x.f6.f0 (by omega) (by omega); rw [List.length_cons]; omega
  rw [if_neg h6] at h ⊢
  by_cases h7 : c = 116
  · rw [if_pos h7] at h ⊢; have := digs_len x.f6.f1 (by omega) (by omega); rw [List.length_cons]; omega
  rw [if_neg h7] at h
  exact h.elim
theorem small_at (b : UInt8) (v : Int) (h0 : 0 ≤ v) (h1 : v ≤ 65535) : ((digits_Small.f v).bind fun s => if 1 + s.size ≤ 9223372036854775807 then some (mk [b] ++ s) else none) = some (mk (b :: digs v)) := by
  have := digs_len v (by omega) (by omega)
  rw [small_some v (by omega) (by omega)]
  show (if 1 + (mk (digs v)).size ≤ _ then _ else _) = _
  rw [if_pos (by rw [mk_size]; omega), mk_append]
  rfl
theorem piece_ev (x : S37) (c : UInt8) (h : okC x c) : Ev (fun k => liPiece k x.f1 x.f2 x.f3 x.f4 x.f5 x.f6.f0 x.f6.f1 c.toNat) (mk (letterL x c)) := by
  unfold okC at h
  unfold letterL liPiece
  by_cases h0 : c = 100
  · subst h0; simp only [if_pos rfl] at h ⊢; exact Ev.congr (fun k => slot_some _ h.1 h.2) (Ev.now _)
  by_cases h1 : c = 97
  · subst h1; exact Ev.congr (fun k => slot_some _ h.1 h.2) (Ev.now _)
  by_cases h2 : c = 98
  · subst h2; exact Ev.congr (fun k => slot_some _ h.1 h.2) (Ev.now _)
  by_cases h3 : c = 102
  · subst h3; exact Ev.congr (fun k => small_at 102 x.f2 h.1 (by have h' : 0 ≤ x.f2 ∧ x.f2 ≤ 31 := h; omega)) (Ev.now _)
  by_cases h4 : c = 110
  · subst h4; exact Ev.congr (fun k => print_some _ h.1 h.2) (Ev.now _)
  by_cases h5 : c = 108
  · subst h5; exact list_ev x.f5 h.1 h.2
  by_cases h6 : c = 111
  · subst h6; exact Ev.congr (fun k => small_at 64 x.f6.f0 h.1 h.2) (Ev.now _)
  by_cases h7 : c = 116
  · subst h7; exact Ev.congr (fun k => small_at 64 x.f6.f1 h.1 h.2) (Ev.now _)
  rw [if_neg h0, if_neg h1, if_neg h2, if_neg h3, if_neg h4, if_neg h5, if_neg h6, if_neg h7] at h
  exact h.elim
theorem words_ev (x : S37) : ∀ cs : List UInt8, (∀ c ∈ cs, okC x c) → Ev (fun k => liWords k x.f1 x.f2 x.f3 x.f4 x.f5 x.f6.f0 x.f6.f1 cs) ((cs.map (letterL x)).map mk)
  | [], _ => Ev.now _
  | c :: cs, h => ev_bind'' (piece_ev x c (h c (by simp))) (ev_bind'' (words_ev x cs (fun d hd => h d (by simp [hd]))) (Ev.now _))
theorem word_ok : ∀ n : Fin 31, (wordT n).data.toList.length ≤ 10 ∧ (piecesL ((n : Nat) : Int) ≠ [] → (wordT n).data.toList ≠ [] ∧ (wordT n).data.toList.all (fun c => decide (kindR c.toNat = 2)) = true) := by decide +kernel
theorem instL_len {x : S37} {n : Nat} (h : InstOk x n) : (instL x n).length ≤ 196 + 176 * x.f5.length := by
  obtain ⟨ho, -⟩ := parts_ok ⟨n, by have := h.le; omega⟩
  have hw := (word_ok ⟨n, by have := h.le; omega⟩).1
  unfold instL
  rw [joinS_cons, List.length_append]
  have := joinTail_len (22 + 22 * x.f5.length) ((partsT n).data.toList.map (letterL x)) (fun w hw => by
    obtain ⟨c, hc, rfl⟩ := List.mem_map.mp hw
    exact letter_len x c (h.ok c hc))
  rw [List.length_map, ← size_data] at this
  have h8 : (partsT n).size ≤ 8 := ho.2
  have hw' : (wordT n).data.toList.length ≤ 10 := hw
  have : (partsT n).size * (22 + 22 * x.f5.length + 1) ≤ 8 * (22 + 22 * x.f5.length + 1) := Nat.mul_le_mul_right _ h8
  omega
theorem inst_ev {x : S37} {n : Nat} (h : InstOk x n) (hb : x.f5.length ≤ 1000000) : Ev (fun k => instS k x) (mk (instL x n)) := by
  have hn := h.le
  obtain ⟨ho, -⟩ := parts_ok ⟨n, by omega⟩
  unfold instS listing_Inst.f
  rw [h.op]
  refine ev_some (word_some ⟨n, by omega⟩) (ev_bind'' (parts_ev n hn) (ev_pos ho (ev_bind'' (words_ev x _ h.ok) ?_)))
  have hl := instL_len h
  have h8 : (partsT n).size ≤ 8 := ho.2
  have := join_some ((wordT n).data.toList :: (partsT n).data.toList.map (letterL x)) (by rw [List.length_cons, List.length_map, ← size_data]; omega) (by unfold instL at hl; omega)
  exact Ev.congr (fun k => this) (Ev.now _)
end Go.Proofs.Ytkgjbdbhpohkiaa.LiText
end
-- from YtkgjbdbhpohkiaaLiBack
section
namespace Go.Proofs.Ytkgjbdbhpohkiaa.LiText
open Go.RowKit Go.Proofs.YtkgjbdbhpohkiaaW.PrintWords Go.Proofs.YtkgjbdbhpohkiaaW.PrintLast Go.Proofs.YtkgjbdbhpohkiaaW.PrintMore Go.Proofs.Ytkgjbdbhpohkiaa.Str Go.Proofs.Ytkgjbdbhpohkiaa.Dig Go.Proofs.Ytkgjbdbhpohkiaa.DigLaw Go.Proofs.Ytkgjbdbhpohkiaa.CodeLaw Go.Proofs.Ytkgjbdbhpohkiaa.PLi Go.Proofs.Ytkgjbdbhpohkiaa.LiRead
set_option linter.unusedSimpArgs false
set_option linter.unusedVariables false
def lineL (x : S37) : List UInt8 := [32, 32] ++ instL x x.f0.toNat ++ [10]
def codeL (xs : List S37) : List UInt8 := xs.flatMap lineL
def headL (f : S33) : List UInt8 := [98, 111, 100, 121, 32] ++ listL f.f0 ++ [32] ++ digs f.f1 ++ [32, 123, 10]
def bodyL (f : S33) : List UInt8 := headL f ++ codeL f.f2 ++ [125, 10]
def textL (l : List S33) : List UInt8 := l.flatMap bodyL
theorem inst_nat {x : S37} (h : GoodI x) : InstOk x x.f0.toNat := by
  obtain ⟨n, hn⟩ := inst_ok h
  have : x.f0.toNat = n := by rw [hn.op]; omega
  rw [this]
  exact hn
theorem line_len {x : S37} (h : GoodI x) : (lineL x).length ≤ 200 * (1 + x.f5.length) := by
  have := instL_len (inst_nat h)
  unfold lineL
  simp only [List.length_append, List.length_cons, List.length_nil]
  omega
theorem code_len : ∀ xs : List S37, (∀ x ∈ xs, GoodI x) → (codeL xs).length ≤ 200 * wtI xs
  | [], _ => by simp [codeL]
  | x :: xs, h => by
    have h1 := line_len (h x (by simp))
    have h2 := code_len xs (fun y hy => h y (by simp [hy]))
    have e : wtI (x :: xs) = (1 + x.f5.length) + wtI xs := rfl
    have e2 : codeL (x :: xs) = lineL x ++ codeL xs := rfl
    rw [e, e2, List.length_append]
    omega
theorem head_len {f : S33} (h : GoodB f) : (headL f).length ≤ 31 + 22 * f.f0.length := by
  have h1 := listL_len f.f0 h.p.2
  have h2 := digs_len f.f1 (by have := h.s; omega) (by have := h.s; omega)
  unfold headL
  simp only [List.length_append, List.length_cons, List.length_nil]
  omega
theorem body_len {f : S33} (h : GoodB f) : (bodyL f).length ≤ 200 + 200 * wtB f := by
  have h1 := head_len h
  have h2 := code_len f.f2 h.i
  unfold bodyL wtB
  simp only [List.length_append, List.length_cons, List.length_nil]
  omega
theorem text_len : ∀ l : List S33, (∀ f ∈ l, GoodB f) → (textL l).length ≤ 200 * wtL l
  | [], _ => by simp [textL]
  | f :: l, h => by
    have h1 := body_len (h f (by simp))
    have h2 := text_len l (fun y hy => h y (by simp [hy]))
    have e : wtL (f :: l) = 1 + wtB f + wtL l := by
      show (l.length + 1) + (wtB f + (l.map wtB).sum) = _
      unfold wtL
      omega
    have e2 : textL (f :: l) = bodyL f ++ textL l := rfl
    rw [e, e2, List.length_append]
    omega
theorem code_ev : ∀ (xs : List S37) (acc : List UInt8), (∀ x ∈ xs, GoodI x) → (∀ x ∈ xs, x.f5.length ≤ 1000000) → acc.length + (codeL xs).length ≤ 140737488355328 → Ev (fun k => liCode k (mk acc) xs) (mk (acc ++ codeL xs))
  | [], acc, _, _, _ => by
    show Ev (fun _ => some (mk acc)) _
    rw [show codeL [] = [] from rfl, List.append_nil]
    exact Ev.now _
  | x :: xs, acc, h, hb, hl => by
    have e2 : codeL (x :: xs) = lineL x ++ codeL xs := rfl
    rw [e2, List.length_append] at hl
    have hi := inst_ev (inst_nat (h x (by simp))) (hb x (by simp))
    have hr := code_ev xs (acc ++ lineL x) (fun y hy => h y (by simp [hy])) (fun y hy => hb y (by simp [hy])) (by rw [List.length_append]; omega)
    have el : mk acc ++ lineS (mk (instL x x.f0.toNat)) = mk (acc ++ lineL x) := by
      unfold lineS lineL
      rw [show (⟨#[32, 32]⟩ : ByteArray) = mk [32, 32] from rfl, show (⟨#[10]⟩ : ByteArray) = mk [10] from rfl, mk_append, mk_append, mk_append]
    rw [e2, ← List.append_assoc]
    refine ev_bind'' hi (ev_pos ?_ ?_)
    · unfold lineL at hl
      simp only [List.length_append, List.length_cons, List.length_nil] at hl
      rw [mk_size, mk_size]
      omega
    · rw [el]
      exact hr
theorem text_ev : ∀ (l : List S33) (acc : List UInt8), (∀ f ∈ l, GoodB f) → (∀ f ∈ l, ∀ x ∈ f.f2, x.f5.length ≤ 1000000) → acc.length + (textL l).length ≤ 140737488355328 → Ev (fun k => liText k (mk acc) l) (mk (acc ++ textL l))
  | [], acc, _, _, _ => by
    show Ev (fun _ => some (mk acc)) _
    rw [show textL [] = [] from rfl, List.append_nil]
    exact Ev.now _
  | f :: l, acc, h, hb, hl => by
    have e2 : textL (f :: l) = bodyL f ++ textL l := rfl
    rw [e2, List.length_append] at hl
    have hf := h f (by simp)
    have hlen : (bodyL f).length = (headL f).length + (codeL f.f2).length + 2 := by unfold bodyL; simp only [List.length_append, List.length_cons, List.length_nil]
    have hhd : (headL f).length = 5 + (listL f.f0).length + 1 + (digs f.f1).length + 3 := by unfold headL; simp only [List.length_append, List.length_cons, List.length_nil]
    have hlist := list_ev f.f0 hf.p.1 hf.p.2
    have hsm := small_some f.f1 (by have := hf.s; omega) (by have := hf.s; omega)
    have hc := code_ev f.f2 (acc ++ headL f) hf.i (hb f (by simp)) (by rw [List.length_append]; omega)
    have hr := text_ev l (acc ++ bodyL f) (fun y hy => h y (by simp [hy])) (fun y hy => hb y (by simp [hy])) (by rw [List.length_append]; omega)
    have eh : mk acc ++ headS (mk (listL f.f0)) (mk (digs f.f1)) = mk (acc ++ headL f) := by
      unfold headS headL
      rw [show (⟨#[98, 111, 100, 121, 32]⟩ : ByteArray) = mk [98, 111, 100, 121, 32] from rfl, show (⟨#[32]⟩ : ByteArray) = mk [32] from rfl, show (⟨#[32, 123, 10]⟩ : ByteArray) = mk [32, 123, 10] from rfl, mk_append, mk_append, mk_append, mk_append, mk_append]
    have ee : mk (acc ++ headL f ++ codeL f.f2) ++ (⟨#[125, 10]⟩ : ByteArray) = mk (acc ++ bodyL f) := by
      rw [show (⟨#[125, 10]⟩ : ByteArray) = mk [125, 10] from rfl, mk_append]
      unfold bodyL
      simp only [List.append_assoc]
    rw [e2, ← List.append_assoc]
    refine ev_bind'' hlist (ev_some hsm (ev_pos (by rw [mk_size, mk_size, mk_size]; omega) ?_))
    rw [eh]
    refine ev_bind'' hc (ev_pos (by rw [mk_size, List.length_append, List.length_append]; omega) ?_)
    rw [ee]
    exact hr
theorem listing_text {l : List S33} (hl : l.length ≤ 32) (h : ∀ f ∈ l, GoodB f) (hb : ∀ f ∈ l, ∀ x ∈ f.f2, x.f5.length ≤ 1000000) (ht : (textL l).length ≤ 140737488355328) : Ev (fun k => listing_Text.f k l) (mk (textL l)) := by
  unfold listing_Text.f
  have := text_ev l [] h hb (by rw [List.length_nil]; omega)
  rw [List.nil_append] at this
  exact ev_pos (c := l.length ≤ 140737488355328 ∧ ∀ x ∈ l, x.f2.length ≤ 140737488355328) ⟨by omega, fun x hx => by have := (h x hx).n; omega⟩ this
end Go.Proofs.Ytkgjbdbhpohkiaa.LiText
end
-- from YtkgjbdbhpohkiaaLiWrite
section
namespace Go.Proofs.Ytkgjbdbhpohkiaa.LiText
open Go.RowKit Go.Proofs.YtkgjbdbhpohkiaaW.PrintWords Go.Proofs.YtkgjbdbhpohkiaaW.PrintLast Go.Proofs.YtkgjbdbhpohkiaaW.PrintMore Go.Proofs.Ytkgjbdbhpohkiaa.Str Go.Proofs.Ytkgjbdbhpohkiaa.Dig Go.Proofs.Ytkgjbdbhpohkiaa.DigLaw Go.Proofs.Ytkgjbdbhpohkiaa.CodeLaw Go.Proofs.Ytkgjbdbhpohkiaa.PLi Go.Proofs.Ytkgjbdbhpohkiaa.LiRead
set_option linter.unusedSimpArgs false
set_option linter.unusedVariables false
theorem typed_any (a : Int) : ∃ b, ops_typed.f a = some b ∧ turntableref05_typed.f a = some b := by
  have e : turntableref05_typed.f a = ops_typed.f a := rfl
  rw [e]
  unfold ops_typed.f
  repeat' split
  all_goals exact ⟨_, rfl, rfl⟩
theorem letter_any (t : Int) : ∃ b, ops_Letter.f t = some b ∧ turntableref05_Letter.f t = some b ∧ b.size = 1 := by
  have e : turntableref05_Letter.f t = ops_Letter.f t := rfl
  rw [e]
  unfold ops_Letter.f
  repeat' split
  all_goals exact ⟨_, rfl, rfl, rfl⟩
theorem word_few : ∀ n : Nat, n < 30 → turntableref05_word.f (n : Int) = some (opOf (n : Int)).w ∧ (opOf (n : Int)).w.size ≤ 10 := by decide +kernel
theorem word_any (a : Int) : turntableref05_word.f a = some (opOf a).w ∧ (opOf a).w.size ≤ 10 := by
  by_cases h : a < 1 ∨ 29 < a
  · have e : opOf a = noRow := if_pos h
    rw [e]
    refine ⟨?_, by decide⟩
    unfold turntableref05_word.f
    rw [Option.bind_some]
    by_cases h1 : a < 1
    · rw [if_pos h1]; rfl
    · rw [if_neg h1, if_pos (by omega)]; rfl
  · obtain ⟨n, rfl⟩ : ∃ n : Nat, a = n := ⟨a.toNat, by omega⟩
    exact word_few n (by omega)
theorem of_any (a : Int) : ops_of.f a = some ((opOf a).w, (opOf a).t0, (opOf a).t1, (opOf a).m, (opOf a).traps, (opOf a).reads, (opOf a).writes, (opOf a).seen, (opOf a).ends) := rfl
theorem word_same (a i n t : Int) (l m : List Int) (s : ByteArray) (z : Int) : ∃ b c, ops_Word.f a i n t l m s z = some b ∧ turntableref05_Word.f a i n t l m s z = some c ∧ b.toList = c.toList := by
  obtain ⟨b, h1, h2⟩ := typed_any a
  obtain ⟨L, h3, h4, h5⟩ := letter_any t
  obtain ⟨h6, h7⟩ := word_any a
  have e1 : (⟨#[46]⟩ : ByteArray).size = 1 := rfl
  have s1 : ((⟨#[46]⟩ : ByteArray) ++ L).size = 2 := by rw [ByteArray.size_append, e1, h5]
  have s2 : ((opOf a).w ++ (⟨#[46]⟩ : ByteArray)).size = (opOf a).w.size + 1 := by rw [ByteArray.size_append, e1]
  cases b with
  | true =>
    refine ⟨(opOf a).w ++ ((⟨#[46]⟩ : ByteArray) ++ L), ((opOf a).w ++ (⟨#[46]⟩ : ByteArray)) ++ L, ?_, ?_, ?_⟩
    · unfold ops_Word.f
      rw [of_any]
      simp only [Option.bind_some, h1, h3, if_true]
      rw [if_pos (by omega), if_pos (by omega)]
    · unfold turntableref05_Word.f
      simp only [Option.bind_some, h2, h4, h6, if_true]
      rw [if_pos (by omega), if_pos (by omega)]
    · rw [toList_eq, toList_eq]; simp
  | false =>
    refine ⟨(opOf a).w, (opOf a).w, ?_, ?_, rfl⟩
    · unfold ops_Word.f
      rw [of_any]
      simp [h1]
    · unfold turntableref05_Word.f
      simp [h2, h6]
theorem word_all (op : Int) : ∃ b c, listing_Word.f op = some b ∧ turntableref37_Word.f op = some c ∧ b.toList = c.toList := by
  unfold listing_Word.f turntableref37_Word.f
  by_cases h0 : op = 30
  · rw [if_pos h0, if_pos h0]; exact ⟨_, _, rfl, rfl, rfl⟩
  by_cases h1 : op = 21
  · rw [if_neg h0, if_neg h0, if_pos h1, if_pos h1]; exact ⟨_, _, rfl, rfl, rfl⟩
  by_cases h2 : op = 20
  · rw [if_neg h0, if_neg h0, if_neg h1, if_neg h1, if_pos h2, if_pos h2]; exact ⟨_, _, rfl, rfl, rfl⟩
  by_cases h3 : op = 24
  · rw [if_neg h0, if_neg h0, if_neg h1, if_neg h1, if_neg h2, if_neg h2, if_pos h3, if_pos h3]; exact ⟨_, _, rfl, rfl, rfl⟩
  rw [if_neg h0, if_neg h0, if_neg h1, if_neg h1, if_neg h2, if_neg h2, if_neg h3, if_neg h3]
  obtain ⟨b, c, e1, e2, e3⟩ := word_same op 0 0 0 [] [] (⟨#[]⟩ : ByteArray) 0
  exact ⟨b, c, by rw [e1]; rfl, by rw [e2]; rfl, e3⟩
theorem one_byte (d : Int) (h0 : 0 ≤ d) (h1 : d < 10) : strOfNums [(wrap64 (48 + d)) % 256] = mk [UInt8.ofNat (48 + d.toNat)] := by
  apply nums_one
  rw [dig_nat _ (by omega), w64 (by omega) (by omega)]
  omega
theorem ref_loop (x0 : Int) : ∀ (m : Nat) (k4 : Int) (acc : List UInt8), k4.natAbs = m → -9223372036854775808 ≤ k4 → k4 ≤ 9223372036854775807 → acc.length + (pd k4.natAbs).length ≤ 100 →
    Ev (fun k => turntableref01_Print.l0 k x0 (mk acc) k4) (mk (if x0 < 0 then 45 :: (pd k4.natAbs ++ acc) else pd k4.natAbs ++ acc)) := by
  intro m
  induction m using Nat.strongRecOn with
  | _ m ih =>
    intro k4 acc hm hlo hhi hlen
    by_cases hz : k4 = 0
    · subst hz
      simp only [Int.natAbs_zero, pd_zero, List.nil_append] at hlen ⊢
      have hlen2 : acc.length ≤ 100 := by simpa using hlen
      refine Ev.step (f := fun _ => if x0 < 0 then some (mk [45] ++ mk acc) else some (mk acc)) (fun k => ?_) ?_
      · simp only [turntableref01_Print.l0]
        rw [if_pos trivial]
        by_cases h : x0 < 0
        · rw [if_pos h, if_pos h, if_pos (by rw [mk_size]; omega)]
        · rw [if_neg h, if_neg h]
      · refine ev_if (fun h => ?_) (fun h => ?_)
        · rw [if_pos h, mk_append]; exact Ev.now _
        · rw [if_neg h]; exact Ev.now _
    · have hp := pd_pos (n := k4.natAbs) (by omega)
      have hq : (k4.tdiv 10).natAbs = k4.natAbs / 10 := by rw [Int.natAbs_tdiv]; rfl
      have hr : (k4.tmod 10).natAbs = k4.natAbs % 10 := by rw [Int.natAbs_tmod]; rfl
      have hb : -9223372036854775808 ≤ k4.tdiv 10 ∧ k4.tdiv 10 ≤ 9223372036854775807 := by omega
      have hw : wrap64 (k4.tdiv 10) = k4.tdiv 10 := w64 hb.1 hb.2
      have hl2 : (UInt8.ofNat (48 + k4.natAbs % 10) :: acc).length + (pd (k4.tdiv 10).natAbs).length ≤ 100 := by
        rw [hq]; rw [hp] at hlen; simp at hlen ⊢; omega
      have hacc : acc.length ≤ 100 := by omega
      have key := ih (k4.tdiv 10).natAbs (by omega) (k4.tdiv 10) (UInt8.ofNat (48 + k4.natAbs % 10) :: acc) rfl hb.1 hb.2 hl2
      have e : (if x0 < 0 then 45 :: (pd (k4.tdiv 10).natAbs ++ UInt8.ofNat (48 + k4.natAbs % 10) :: acc) else pd (k4.tdiv 10).natAbs ++ UInt8.ofNat (48 + k4.natAbs % 10) :: acc) = (if x0 < 0 then 45 :: (pd k4.natAbs ++ acc) else pd k4.natAbs ++ acc) := by
        rw [hp, hq]; simp
      rw [e] at key
      refine Ev.step (f := fun k => turntableref01_Print.l0 k x0 (mk (UInt8.ofNat (48 + k4.natAbs % 10) :: acc)) (k4.tdiv 10)) (fun k => ?_) key
      have hsz : ∀ c, (mk [c]).size + (mk acc).size ≤ 9223372036854775807 := fun c => by rw [mk_size, mk_size]; simp; omega
      simp only [turntableref01_Print.l0]
      rw [if_neg hz]
      by_cases hs : k4.tmod 10 < 0
      · have e1 : wrap64 (-(k4.tmod 10)) = ((k4.natAbs % 10 : Nat) : Int) := by rw [w64 (by omega) (by omega)]; omega
        rw [if_pos hs, e1]
        simp only [Option.bind_some]
        rw [one_byte _ (by omega) (by omega), Int.toNat_natCast, if_pos (hsz _), mk_append, hw]
        rfl
      · have e1 : k4.tmod 10 = ((k4.natAbs % 10 : Nat) : Int) := by omega
        rw [if_neg hs, e1]
        simp only [Option.bind_some]
        rw [one_byte _ (by omega) (by omega), Int.toNat_natCast, if_pos (hsz _), mk_append, hw]
        rfl
theorem ref_print (a : Int) (h0 : -9223372036854775808 ≤ a) (h1 : a ≤ 9223372036854775807) : Ev (fun k => turntableref01_Print.f k a) (mk (digs a)) := by
  unfold turntableref01_Print.f
  refine ev_if (fun h => ?_) (fun h => ?_)
  · subst h; exact Ev.now _
  · have hl := pd_len 30 a.natAbs (by omega)
    have := ref_loop a _ a [] rfl h0 h1 (by simp; omega)
    have e : (if a < 0 then 45 :: (pd a.natAbs ++ []) else pd a.natAbs ++ []) = digs a := by
      unfold digs; rw [if_neg h]; simp
    rw [e] at this
    exact this
theorem ref_small (a : Int) (h0 : -9223372036854775808 ≤ a) (h1 : a ≤ 9223372036854775807) : Ev (fun k => turntableref37_small.f k a) (mk (digs a)) := ev_bind'' (ref_print a h0 h1) (Ev.now _)
theorem ref_slot (s : Int) (h0 : -1 ≤ s) (h1 : s ≤ 4095) : Ev (fun k => turntableref37_slot.f k s) (mk (slotW s)) := by
  unfold turntableref37_slot.f slotW
  by_cases h : s < 0
  · rw [if_pos h]; exact ev_pos h (Ev.now _)
  · rw [if_neg h]
    have hl := digs_len s (by omega) (by omega)
    refine ev_neg h (ev_bind'' (ref_small s (by omega) (by omega)) (ev_pos (c := 1 + (mk (digs s)).size ≤ 9223372036854775807) (by rw [mk_size]; omega) ?_))
    rw [show (⟨#[115]⟩ : ByteArray) = mk [115] from rfl, mk_append]
    exact Ev.now _
theorem ref_list_l0 (l : List Int) (hl : l.length ≤ 8) (h : ∀ v ∈ l, 0 ≤ v ∧ v ≤ 4095) : ∀ (d i : Nat) (acc : List UInt8), l.length - i = d → 0 < i → i ≤ l.length → acc.length ≤ 22 * i + 1 → Ev (fun k => turntableref37_list.l0 k l (mk acc) (i : Int)) (mk (acc ++ Lib.joinTail [32] ((l.drop i).map slotW) ++ [41])) := by
  intro d
  induction d with
  | zero =>
    intro i acc hd h0 hi ha
    rw [List.drop_eq_nil_of_le (by omega)]
    refine Ev.step (fun k => by simp only [turntableref37_list.l0]; rfl) (ev_neg (by omega) (ev_pos (by rw [mk_size]; omega) ?_))
    rw [show (⟨#[41]⟩ : ByteArray) = mk [41] from rfl, mk_append, show Lib.joinTail [32] (([] : List Int).map slotW) = [] from rfl, List.append_nil]
    exact Ev.now _
  | succ d ih =>
    intro i acc hd h0 hi ha
    have hi' : i < l.length := by omega
    have hv := h _ (List.getElem_mem hi')
    have hsl := slotW_len l[i] (by omega) hv.2
    have hw : wrap64 ((i : Int) + 1) = ((i + 1 : Nat) : Int) := by rw [w64 (by omega) (by omega)]; omega
    have hr := ih (i + 1) (acc ++ [32] ++ slotW l[i]) (by omega) (by omega) (by omega) (by simp only [List.length_append, List.length_cons, List.length_nil]; omega)
    refine Ev.step (fun k => by simp only [turntableref37_list.l0]; rfl) (ev_pos (by omega) (ev_pos (by omega) (ev_pos (by rw [mk_size]; omega) (ev_pos (by omega) ?_))))
    rw [rd_at l i hi']
    refine ev_bind'' (ref_slot _ (by omega) hv.2) ?_
    rw [show (⟨#[32]⟩ : ByteArray) = mk [32] from rfl, mk_append]
    refine ev_pos (by rw [mk_size, mk_size]; simp only [List.length_append, List.length_cons, List.length_nil]; omega) ?_
    rw [mk_append, hw, List.drop_eq_getElem_cons hi', List.map_cons, joinTail_cons]
    have e : acc ++ 32 :: (slotW l[i] ++ Lib.joinTail [32] ((l.drop (i + 1)).map slotW)) ++ [41] = acc ++ [32] ++ slotW l[i] ++ Lib.joinTail [32] ((l.drop (i + 1)).map slotW) ++ [41] := by simp
    rw [e]
    exact hr
theorem ref_list (l : List Int) (hl : l.length ≤ 8) (h : ∀ v ∈ l, 0 ≤ v ∧ v ≤ 4095) : Ev (fun k => turntableref37_list.f k l) (mk (listL l)) := by
  unfold turntableref37_list.f listL
  cases l with
  | nil =>
    refine Ev.step (fun k => by simp only [turntableref37_list.l0]; rfl) (ev_neg (by simp) (ev_pos (by decide) ?_))
    exact Ev.now _
  | cons v l =>
    have hv := h v (by simp)
    have hsl := slotW_len v (by omega) hv.2
    have hr := ref_list_l0 (v :: l) hl h l.length 1 (40 :: slotW v) (by simp) (by decide) (by simp) (by rw [List.length_cons]; omega)
    have hw : wrap64 ((0 : Int) + 1) = ((1 : Nat) : Int) := by rw [w64 (by omega) (by omega)]; rfl
    refine Ev.step (fun k => by simp only [turntableref37_list.l0]; rfl) (ev_pos (by rw [List.length_cons]; omega) (ev_neg (by omega) (ev_pos (by omega) ?_)))
    rw [show rd (v :: l) 0 = v from rfl]
    refine ev_bind'' (ref_slot _ (by omega) hv.2) ?_
    rw [show (⟨#[40]⟩ : ByteArray) = mk [40] from rfl, mk_append]
    refine ev_pos (by rw [mk_size, mk_size, List.length_singleton]; omega) ?_
    rw [hw, List.map_cons, joinS_cons]
    exact hr
def cvC (op : Int) (c : UInt8) : List UInt8 := if c = 97 then (if op = 21 then [102] else [97]) else if c = 115 ∨ c = 119 then [110] else if c = 116 then [111, 116] else [c]
def cv (op : Int) (cs : List UInt8) : List UInt8 := cs.flatMap (cvC op)
theorem pieces_cv : ∀ n : Fin 31, (piecesS ((n : Nat) : Int)).size ≤ 8 ∧ (piecesS ((n : Nat) : Int)).data.toList.all (fun c => [100, 97, 98, 115, 119, 108, 111, 116].contains c) = true ∧ cv ((n : Nat) : Int) (piecesS ((n : Nat) : Int)).data.toList = (partsT n).data.toList := by decide +kernel
theorem tail_app (a b : List (List UInt8)) : Lib.joinTail [32] (a ++ b) = Lib.joinTail [32] a ++ Lib.joinTail [32] b := by
  unfold Lib.joinTail
  rw [List.map_append, List.flatten_append]
section
variable (x : S37) (p : ByteArray) (hp : p.size ≤ 8)
include hp
theorem ref_inst_l0 : ∀ (d i : Nat) (acc : List UInt8), p.data.toList.length - i = d → i ≤ p.data.toList.length → (∀ c ∈ p.data.toList.drop i, c ∈ ([100, 97, 98, 115, 119, 108, 111, 116] : List UInt8)) → (∀ c ∈ cv x.f0 (p.data.toList.drop i), okC x c) → acc.length ≤ 100000 + 300 * i →
    Ev (fun k => turntableref37_Inst.l0 k (mk acc) p (i : Int) x.f0 x.f1 x.f2 x.f3 x.f4 x.f5 x.f6.f0 x.f6.f1) (mk (acc ++ Lib.joinTail [32] ((cv x.f0 (p.data.toList.drop i)).map (letterL x)))) := by
  have hp' : p.data.toList.length ≤ 8 := by rw [← size_data]; exact hp
  intro d
  induction d with
  | zero =>
    intro i acc hd hi _ _ ha
    rw [List.drop_eq_nil_of_le (by omega)]
    refine Ev.step (fun k => by simp only [turntableref37_Inst.l0]; rfl) (ev_neg (by rw [size_data]; omega) ?_)
    rw [show Lib.joinTail [32] ((cv x.f0 []).map (letterL x)) = [] from rfl, List.append_nil]
    exact Ev.now _
  | succ d ih =>
    intro i acc hd hi hin hok ha
    have hi' : i < p.data.toList.length := by omega
    have hw : wrap64 ((i : Int) + 1) = ((i + 1 : Nat) : Int) := by rw [w64 (by omega) (by omega)]; omega
    have hbt : bt p (i : Int) = (p.data.toList[i].toNat : Int) := by
      have := bt_mk p.data.toList i hi'
      rw [← mk_data p] at this
      exact this
    rw [List.drop_eq_getElem_cons hi'] at hin hok ⊢
    have hc := hin _ (List.mem_cons_self ..)
    have hin2 : ∀ c ∈ p.data.toList.drop (i + 1), c ∈ ([100, 97, 98, 115, 119, 108, 111, 116] : List UInt8) := fun c h => hin c (List.mem_cons_of_mem _ h)
    generalize p.data.toList[i] = c at *
    have ecv : cv x.f0 (c :: p.data.toList.drop (i + 1)) = cvC x.f0 c ++ cv x.f0 (p.data.toList.drop (i + 1)) := rfl
    rw [ecv] at hok ⊢
    have hok2 : ∀ c ∈ cv x.f0 (p.data.toList.drop (i + 1)), okC x c := fun d h => hok d (List.mem_append_right _ h)
    have hok1 : ∀ d ∈ cvC x.f0 c, okC x d := fun d h => hok d (List.mem_append_left _ h)
    rw [List.map_append, tail_app, ← List.append_assoc]
    refine Ev.step (fun k => by simp only [turntableref37_Inst.l0]; rfl) (ev_pos (by rw [size_data]; omega) (ev_pos (by omega) ?_))
    have hnext : ∀ add : List UInt8, add.length ≤ 250 → Ev (fun k => turntableref37_Inst.l0 k (mk (acc ++ add)) p (wrap64 ((i : Int) + 1)) x.f0 x.f1 x.f2 x.f3 x.f4 x.f5 x.f6.f0 x.f6.f1) (mk (acc ++ add ++ Lib.joinTail [32] ((cv x.f0 (p.data.toList.drop (i + 1))).map (letterL x)))) := fun add h => by
      rw [hw]
      exact ih (i + 1) (acc ++ add) (by omega) (by omega) hin2 hok2 (by rw [List.length_append]; omega)
    have hsz : ∀ y : ByteArray, y.size ≤ 250 → (mk acc ++ mk [32]).size + y.size ≤ 9223372036854775807 := fun y h => by rw [mk_append, mk_size, List.length_append, List.length_singleton]; omega
    simp only [hbt]
    simp only [List.mem_cons, List.not_mem_nil, or_false] at hc
    rw [show (⟨#[32]⟩ : ByteArray) = mk [32] from rfl, show (⟨#[32, 102]⟩ : ByteArray) = mk [32, 102] from rfl]
    rcases hc with rfl | rfl | rfl | rfl | rfl | rfl | rfl | rfl
    · have h1 : -1 ≤ x.f1 ∧ x.f1 ≤ 4095 := hok1 100 (show (100 : UInt8) ∈ ([100] : List UInt8) by decide)
      have hl := slotW_len x.f1 h1.1 h1.2
      refine ev_pos (by decide) ?_
      refine ev_pos (by rw [mk_size]; omega) (ev_bind'' (ref_slot x.f1 h1.1 h1.2) ?_)
      rw [mk_append]
      refine ev_pos (by rw [mk_size, mk_size, List.length_append]; simp only [List.length_cons, List.length_nil]; omega) ?_
      rw [mk_append, List.append_assoc]
      have hn := hnext ([32] ++ slotW x.f1) (by rw [List.length_append]; simp only [List.length_cons, List.length_nil]; omega)
      have e : [32] ++ slotW x.f1 = Lib.joinTail [32] ([100].map (letterL x)) := by simp [Lib.joinTail, letterL]
      rw [show cvC x.f0 100 = [100] from rfl]
      rw [e] at hn ⊢
      exact hn
    · by_cases ho : x.f0 = 21
      · have ec : cvC x.f0 97 = [102] := by unfold cvC; rw [if_pos rfl, if_pos ho]
        rw [ec] at hok1 ⊢
        have h1 : 0 ≤ x.f2 ∧ x.f2 ≤ 31 := hok1 102 (by simp)
        have hl := digs_len x.f2 (by omega) (by omega)
        refine ev_neg (by decide) (ev_pos (by decide) (ev_pos ho ?_))
        refine ev_pos (by rw [mk_size]; omega) (ev_bind'' (ref_small x.f2 (by omega) (by omega)) ?_)
        rw [mk_append]
        refine ev_pos (by rw [mk_size, mk_size, List.length_append]; simp only [List.length_cons, List.length_nil]; omega) ?_
        rw [mk_append, List.append_assoc]
        have hn := hnext ([32, 102] ++ digs x.f2) (by rw [List.length_append]; simp only [List.length_cons, List.length_nil]; omega)
        have e : [32, 102] ++ digs x.f2 = Lib.joinTail [32] ([102].map (letterL x)) := by simp [Lib.joinTail, letterL]
        rw [e] at hn ⊢
        exact hn
      · have ec : cvC x.f0 97 = [97] := by unfold cvC; rw [if_pos rfl, if_neg ho]
        rw [ec] at hok1 ⊢
        have h1 : -1 ≤ x.f2 ∧ x.f2 ≤ 4095 := hok1 97 (by simp)
        have hl := slotW_len x.f2 h1.1 h1.2
        refine ev_neg (by decide) (ev_pos (by decide) (ev_neg ho ?_))
        refine ev_pos (by rw [mk_size]; omega) (ev_bind'' (ref_slot x.f2 h1.1 h1.2) ?_)
        rw [mk_append]
        refine ev_pos (by rw [mk_size, mk_size, List.length_append]; simp only [List.length_cons, List.length_nil]; omega) ?_
        rw [mk_append, List.append_assoc]
        have hn := hnext ([32] ++ slotW x.f2) (by rw [List.length_append]; simp only [List.length_cons, List.length_nil]; omega)
        have e : [32] ++ slotW x.f2 = Lib.joinTail [32] ([97].map (letterL x)) := by simp [Lib.joinTail, letterL]
        rw [e] at hn ⊢
        exact hn
    · have h1 : -1 ≤ x.f3 ∧ x.f3 ≤ 4095 := hok1 98 (show (98 : UInt8) ∈ ([98] : List UInt8) by decide)
      have hl := slotW_len x.f3 h1.1 h1.2
      refine ev_neg (by decide) (ev_neg (by decide) (ev_pos (by decide) ?_))
      refine ev_pos (by rw [mk_size]; omega) (ev_bind'' (ref_slot x.f3 h1.1 h1.2) ?_)
      rw [mk_append]
      refine ev_pos (by rw [mk_size, mk_size, List.length_append]; simp only [List.length_cons, List.length_nil]; omega) ?_
      rw [mk_append, List.append_assoc]
      have hn := hnext ([32] ++ slotW x.f3) (by rw [List.length_append]; simp only [List.length_cons, List.length_nil]; omega)
      have e : [32] ++ slotW x.f3 = Lib.joinTail [32] ([98].map (letterL x)) := by simp [Lib.joinTail, letterL]
      rw [show cvC x.f0 98 = [98] from rfl]
      rw [e] at hn ⊢
      exact hn
    · have h1 : -9223372036854775808 ≤ x.f4 ∧ x.f4 ≤ 9223372036854775807 := hok1 110 (show (110 : UInt8) ∈ ([110] : List UInt8) by decide)
      have hl := digs_len x.f4 h1.1 h1.2
      refine ev_neg (by decide) (ev_neg (by decide) (ev_neg (by decide) ?_))
      refine ev_pos (by decide) ?_
      refine Ev.step (fun k => by simp only [turntableref37_Inst.j1]; rfl) ?_
      refine ev_pos (by decide) ?_
      refine ev_pos (by rw [mk_size]; omega) (ev_bind'' (ref_print x.f4 h1.1 h1.2) ?_)
      rw [mk_append]
      refine ev_pos (by rw [mk_size, mk_size, List.length_append]; simp only [List.length_cons, List.length_nil]; omega) ?_
      rw [mk_append, List.append_assoc]
      have hn := hnext ([32] ++ digs x.f4) (by rw [List.length_append]; simp only [List.length_cons, List.length_nil]; omega)
      have e : [32] ++ digs x.f4 = Lib.joinTail [32] ([110].map (letterL x)) := by simp [Lib.joinTail, letterL]
      rw [show cvC x.f0 115 = [110] from rfl]
      rw [e] at hn ⊢
      exact hn
    · have h1 : -9223372036854775808 ≤ x.f4 ∧ x.f4 ≤ 9223372036854775807 := hok1 110 (show (110 : UInt8) ∈ ([110] : List UInt8) by decide)
      have hl := digs_len x.f4 h1.1 h1.2
      refine ev_neg (by decide) (ev_neg (by decide) (ev_neg (by decide) ?_))
      refine ev_neg (by decide) ?_
      refine Ev.step (fun k => by simp only [turntableref37_Inst.j1]; rfl) ?_
      refine ev_pos (by decide) ?_
      refine ev_pos (by rw [mk_size]; omega) (ev_bind'' (ref_print x.f4 h1.1 h1.2) ?_)
      rw [mk_append]
      refine ev_pos (by rw [mk_size, mk_size, List.length_append]; simp only [List.length_cons, List.length_nil]; omega) ?_
      rw [mk_append, List.append_assoc]
      have hn := hnext ([32] ++ digs x.f4) (by rw [List.length_append]; simp only [List.length_cons, List.length_nil]; omega)
      have e : [32] ++ digs x.f4 = Lib.joinTail [32] ([110].map (letterL x)) := by simp [Lib.joinTail, letterL]
      rw [show cvC x.f0 119 = [110] from rfl]
      rw [e] at hn ⊢
      exact hn
    · have h1 : x.f5.length ≤ 8 ∧ ∀ v ∈ x.f5, 0 ≤ v ∧ v ≤ 4095 := hok1 108 (show (108 : UInt8) ∈ ([108] : List UInt8) by decide)
      have hl := listL_len x.f5 h1.2
      refine ev_neg (by decide) (ev_neg (by decide) (ev_neg (by decide) ?_))
      refine ev_neg (by decide) ?_
      refine Ev.step (fun k => by simp only [turntableref37_Inst.j1]; rfl) ?_
      refine ev_neg (by decide) ?_
      refine ev_pos (by decide) ?_
      simp only [show (⟨#[32, 64]⟩ : ByteArray) = mk [32, 64] from rfl, show (⟨#[32]⟩ : ByteArray) = mk [32] from rfl]
      refine ev_pos (by rw [mk_size]; omega) (ev_bind'' (ref_list x.f5 h1.1 h1.2) ?_)
      rw [mk_append]
      refine ev_pos (by rw [mk_size, mk_size, List.length_append]; simp only [List.length_cons, List.length_nil]; omega) ?_
      rw [mk_append, List.append_assoc]
      have hn := hnext ([32] ++ listL x.f5) (by rw [List.length_append]; simp only [List.length_cons, List.length_nil]; omega)
      have e : [32] ++ listL x.f5 = Lib.joinTail [32] ([108].map (letterL x)) := by simp [Lib.joinTail, letterL]
      rw [show cvC x.f0 108 = [108] from rfl]
      rw [e] at hn ⊢
      exact hn
    · have h1 : 0 ≤ x.f6.f0 ∧ x.f6.f0 ≤ 65535 := hok1 111 (show (111 : UInt8) ∈ ([111] : List UInt8) by decide)
      have hl := digs_len x.f6.f0 (by omega) (by omega)
      refine ev_neg (by decide) (ev_neg (by decide) (ev_neg (by decide) ?_))
      refine ev_neg (by decide) ?_
      refine Ev.step (fun k => by simp only [turntableref37_Inst.j1]; rfl) ?_
      refine ev_neg (by decide) ?_
      refine ev_neg (by decide) ?_
      refine ev_pos (by decide) ?_
      simp only [show (⟨#[32, 64]⟩ : ByteArray) = mk [32, 64] from rfl, show (⟨#[32]⟩ : ByteArray) = mk [32] from rfl]
      refine ev_pos (by rw [mk_size]; omega) (ev_bind'' (ref_small x.f6.f0 (by omega) (by omega)) ?_)
      rw [mk_append]
      refine ev_pos (by rw [mk_size, mk_size, List.length_append]; simp only [List.length_cons, List.length_nil]; omega) ?_
      rw [mk_append, List.append_assoc]
      have hn := hnext ([32, 64] ++ digs x.f6.f0) (by rw [List.length_append]; simp only [List.length_cons, List.length_nil]; omega)
      have e : [32, 64] ++ digs x.f6.f0 = Lib.joinTail [32] ([111].map (letterL x)) := by simp [Lib.joinTail, letterL]
      rw [show cvC x.f0 111 = [111] from rfl]
      rw [e] at hn ⊢
      exact hn
    · have h1 : 0 ≤ x.f6.f0 ∧ x.f6.f0 ≤ 65535 := hok1 111 (show (111 : UInt8) ∈ ([111, 116] : List UInt8) by decide)
      have h2 : 0 ≤ x.f6.f1 ∧ x.f6.f1 ≤ 65535 := hok1 116 (show (116 : UInt8) ∈ ([111, 116] : List UInt8) by decide)
      have hl := digs_len x.f6.f0 (by omega) (by omega)
      have hl2 := digs_len x.f6.f1 (by omega) (by omega)
      refine ev_neg (by decide) (ev_neg (by decide) (ev_neg (by decide) ?_))
      refine ev_neg (by decide) ?_
      refine Ev.step (fun k => by simp only [turntableref37_Inst.j1]; rfl) ?_
      refine ev_neg (by decide) ?_
      refine ev_neg (by decide) ?_
      refine ev_neg (by decide) ?_
      refine ev_pos (by decide) ?_
      simp only [show (⟨#[32, 64]⟩ : ByteArray) = mk [32, 64] from rfl, show (⟨#[32]⟩ : ByteArray) = mk [32] from rfl]
      refine ev_pos (by rw [mk_size]; omega) (ev_bind'' (ref_small x.f6.f0 (by omega) (by omega)) ?_)
      rw [mk_append]
      refine ev_pos (by rw [mk_size, mk_size, List.length_append]; simp only [List.length_cons, List.length_nil]; omega) ?_
      rw [mk_append]
      refine ev_pos (by rw [mk_size]; simp only [List.length_append, List.length_cons, List.length_nil]; omega) (ev_bind'' (ref_small x.f6.f1 (by omega) (by omega)) ?_)
      rw [mk_append]
      refine ev_pos (by rw [mk_size, mk_size]; simp only [List.length_append, List.length_cons, List.length_nil]; omega) ?_
      rw [mk_append]
      have hn := hnext ([32, 64] ++ digs x.f6.f0 ++ [32, 64] ++ digs x.f6.f1) (by simp only [List.length_append, List.length_cons, List.length_nil]; omega)
      have e : [32, 64] ++ digs x.f6.f0 ++ [32, 64] ++ digs x.f6.f1 = Lib.joinTail [32] ([111, 116].map (letterL x)) := by simp [Lib.joinTail, letterL]
      have e2 : acc ++ [32, 64] ++ digs x.f6.f0 ++ [32, 64] ++ digs x.f6.f1 = acc ++ ([32, 64] ++ digs x.f6.f0 ++ [32, 64] ++ digs x.f6.f1) := by simp
      rw [e2, show cvC x.f0 116 = [111, 116] from rfl]
      rw [e] at hn ⊢
      exact hn
end
theorem ref_inst {x : S37} (hx : GoodI x) (hb : x.f5.length ≤ 8) : Ev (fun k => turntableref37_Inst.f k x.f0 x.f1 x.f2 x.f3 x.f4 x.f5 x.f6.f0 x.f6.f1) (mk (instL x x.f0.toNat)) := by
  have h := inst_nat hx
  have hn := h.le
  generalize hne : x.f0.toNat = n at *
  obtain ⟨p1, p2, p3⟩ := pieces_cv ⟨n, by omega⟩
  replace p1 : (piecesS (n : Int)).size ≤ 8 := p1
  replace p2 : (piecesS (n : Int)).data.toList.all _ = true := p2
  replace p3 : cv (n : Int) (piecesS (n : Int)).data.toList = (partsT n).data.toList := p3
  obtain ⟨b, c, e1, e2, e3⟩ := word_all (n : Int)
  have hws := word_some ⟨n, by omega⟩
  replace hws : listing_Word.f (n : Int) = some (wordT n) := hws
  rw [hws] at e1
  obtain rfl := Option.some.inj e1
  have ec : c = mk (wordT n).data.toList := by rw [← mk_data]; exact (Str.inj e3).symm
  have hw10 := (word_ok ⟨n, by omega⟩).1
  replace hw10 : (wordT n).data.toList.length ≤ 10 := hw10
  have hl := ref_inst_l0 x (piecesS (n : Int)) p1 _ 0 (wordT n).data.toList rfl (Nat.zero_le _) (all_in p2) (by rw [h.op, List.drop_zero, p3]; exact h.ok) (by omega)
  rw [List.drop_zero, h.op, p3] at hl
  unfold turntableref37_Inst.f instL
  rw [h.op, joinS_cons]
  rw [ec] at e2
  exact ev_some e2 (ev_some (show turntableref33_Pieces.f (n : Int) = some (piecesS (n : Int)) from rfl) hl)
theorem ref_code (l : List S33) (i : Nat) (hi : i < l.length) (hl : l.length ≤ 32) (f : S33) (hfi : rd_T33 l (i : Int) = f) (hf : GoodB f) (hb : ∀ y ∈ f.f2, y.f5.length ≤ 8) (A B : List UInt8) (hA : A.length ≤ 9000000000) (next : Ev (fun k => turntableref37_Text.l0 k l (mk A) (wrap64 ((i : Int) + 1))) (mk B)) :
    ∀ (d j : Nat) (a : List UInt8), f.f2.length - j = d → j ≤ f.f2.length → a ++ codeL (f.f2.drop j) ++ [125, 10] = A → Ev (fun k => turntableref37_Text.l1 k l (mk a) (i : Int) (j : Int)) (mk B) := by
  have hn := hf.n
  intro d
  induction d with
  | zero =>
    intro j a hd hj ea
    rw [List.drop_eq_nil_of_le (by omega), show codeL ([] : List S37) = [] from rfl, List.append_nil] at ea
    have hal := congrArg List.length ea
    simp only [List.length_append, List.length_cons, List.length_nil] at hal
    refine Ev.step (fun k => by simp only [turntableref37_Text.l1]; rfl) ?_
    rw [hfi]
    refine ev_pos (by omega) (ev_pos (by omega) (ev_neg (by omega) (ev_pos (by rw [mk_size]; omega) ?_)))
    rw [show (⟨#[125, 10]⟩ : ByteArray) = mk [125, 10] from rfl, mk_append, ea]
    exact next
  | succ d ih =>
    intro j a hd hj ea
    have hj' : j < f.f2.length := by omega
    have hw : wrap64 ((j : Int) + 1) = ((j + 1 : Nat) : Int) := by rw [w64 (by omega) (by omega)]; omega
    rw [List.drop_eq_getElem_cons hj'] at ea
    have hx := hf.i _ (List.getElem_mem hj')
    have hinst := ref_inst hx (hb _ (List.getElem_mem hj'))
    have hrd := rd51_at f.f2 j hj'
    generalize f.f2[j] = x at *
    have e : codeL (x :: f.f2.drop (j + 1)) = lineL x ++ codeL (f.f2.drop (j + 1)) := rfl
    rw [e, ← List.append_assoc] at ea
    have hr := ih (j + 1) (a ++ lineL x) (by omega) (by omega) ea
    have hal := congrArg List.length ea
    simp only [List.length_append] at hal
    have hln : (lineL x).length = 3 + (instL x x.f0.toNat).length := by unfold lineL; simp only [List.length_append, List.length_cons, List.length_nil]; omega
    refine Ev.step (fun k => by simp only [turntableref37_Text.l1]; rfl) ?_
    rw [hfi, hrd]
    refine ev_pos (by omega) (ev_pos (by omega) (ev_pos (by omega) (ev_pos (by rw [mk_size]; omega) (ev_pos (by omega) (ev_bind'' hinst ?_)))))
    rw [show (⟨#[32, 32]⟩ : ByteArray) = mk [32, 32] from rfl, show (⟨#[10]⟩ : ByteArray) = mk [10] from rfl, mk_append]
    refine ev_pos (by rw [mk_size, mk_size, List.length_append]; simp only [List.length_cons, List.length_nil]; omega) ?_
    rw [mk_append]
    refine ev_pos (by rw [mk_size, List.length_append, List.length_append]; simp only [List.length_cons, List.length_nil]; omega) ?_
    rw [mk_append, hw]
    have e3 : a ++ [32, 32] ++ instL x x.f0.toNat ++ [10] = a ++ lineL x := by unfold lineL; simp
    rw [e3]
    exact hr
theorem ref_text_l0 (l : List S33) (hl : l.length ≤ 32) (hg : ∀ f ∈ l, GoodB f) (hb : ∀ f ∈ l, ∀ y ∈ f.f2, y.f5.length ≤ 8) : ∀ (d i : Nat) (acc : List UInt8), l.length - i = d → i ≤ l.length → acc.length + (textL (l.drop i)).length ≤ 9000000000 → Ev (fun k => turntableref37_Text.l0 k l (mk acc) (i : Int)) (mk (acc ++ textL (l.drop i))) := by
  intro d
  induction d with
  | zero =>
    intro i acc hd hi ha
    rw [List.drop_eq_nil_of_le (by omega)]
    refine Ev.step (fun k => by simp only [turntableref37_Text.l0]; rfl) (ev_neg (by omega) ?_)
    rw [show textL ([] : List S33) = [] from rfl, List.append_nil]
    exact Ev.now _
  | succ d ih =>
    intro i acc hd hi ha
    have hi' : i < l.length := by omega
    have hw : wrap64 ((i : Int) + 1) = ((i + 1 : Nat) : Int) := by rw [w64 (by omega) (by omega)]; omega
    have hf := hg _ (List.getElem_mem hi')
    rw [List.drop_eq_getElem_cons hi'] at ha ⊢
    have e : textL (l[i] :: l.drop (i + 1)) = bodyL l[i] ++ textL (l.drop (i + 1)) := rfl
    rw [e, List.length_append] at ha
    rw [e]
    have hlen : (bodyL l[i]).length = (headL l[i]).length + (codeL l[i].f2).length + 2 := by unfold bodyL; simp only [List.length_append, List.length_cons, List.length_nil]
    have hhd : (headL l[i]).length = 5 + (listL l[i].f0).length + 1 + (digs l[i].f1).length + 3 := by unfold headL; simp only [List.length_append, List.length_cons, List.length_nil]
    have hlist := ref_list l[i].f0 hf.p.1 hf.p.2
    have hsm := ref_small l[i].f1 (by have := hf.s; omega) (by have := hf.s; omega)
    have hnx : ∀ a : List UInt8, a = acc ++ bodyL l[i] → Ev (fun k => turntableref37_Text.l0 k l (mk a) (wrap64 ((i : Int) + 1))) (mk (a ++ textL (l.drop (i + 1)))) := fun a ea => by
      rw [hw]
      exact ih (i + 1) a (by omega) (by omega) (by rw [ea, List.length_append]; omega)
    refine Ev.step (fun k => by simp only [turntableref37_Text.l0]; rfl) (ev_pos (by omega) (ev_pos (by rw [mk_size]; omega) (ev_pos (by omega) ?_)))
    rw [rd47_at l i hi']
    refine ev_bind'' hlist ?_
    rw [show (⟨#[98, 111, 100, 121, 32]⟩ : ByteArray) = mk [98, 111, 100, 121, 32] from rfl, show (⟨#[32]⟩ : ByteArray) = mk [32] from rfl, show (⟨#[32, 123, 10]⟩ : ByteArray) = mk [32, 123, 10] from rfl, mk_append]
    refine ev_pos (by rw [mk_size, mk_size, List.length_append]; simp only [List.length_cons, List.length_nil]; omega) ?_
    rw [mk_append]
    refine ev_pos (by rw [mk_size, List.length_append, List.length_append]; simp only [List.length_cons, List.length_nil]; omega) (ev_bind'' hsm ?_)
    rw [mk_append]
    refine ev_pos (by rw [mk_size, mk_size]; simp only [List.length_append, List.length_cons, List.length_nil]; omega) ?_
    rw [mk_append]
    refine ev_pos (by rw [mk_size]; simp only [List.length_append, List.length_cons, List.length_nil]; omega) ?_
    rw [mk_append]
    have e3 : acc ++ [98, 111, 100, 121, 32] ++ listL l[i].f0 ++ [32] ++ digs l[i].f1 ++ [32, 123, 10] = acc ++ headL l[i] := by unfold headL; simp
    rw [e3]
    have hAl : (acc ++ bodyL l[i]).length ≤ 9000000000 := by rw [List.length_append]; omega
    rw [← List.append_assoc]
    exact ref_code l i hi' hl l[i] (rd47_at l i hi') hf (hb _ (List.getElem_mem hi')) (acc ++ bodyL l[i]) _ hAl (hnx _ rfl) _ 0 (acc ++ headL l[i]) rfl (Nat.zero_le _) (by rw [List.drop_zero]; unfold bodyL; simp)
theorem ref_text {l : List S33} (hl : l.length ≤ 32) (hg : ∀ f ∈ l, GoodB f) (hb : ∀ f ∈ l, ∀ y ∈ f.f2, y.f5.length ≤ 8) (ht : (textL l).length ≤ 9000000000) : Ev (fun k => turntableref37_Text.f k l) (mk (textL l)) := by
  have := ref_text_l0 l hl hg hb _ 0 [] rfl (Nat.zero_le _) (by rw [List.drop_zero, List.length_nil]; omega)
  rw [List.drop_zero, List.nil_append] at this
  exact this
end Go.Proofs.Ytkgjbdbhpohkiaa.LiText
end
-- from YtkgjbdbhpohkiaaPureListingWrites
section
namespace Go.Proofs.Ytkgjbdbhpohkiaa.Pure
open Go.RowKit Go.Proofs.Ytkgjbdbhpohkiaa.PLi Go.Proofs.Ytkgjbdbhpohkiaa.ListingWritesSaid Go.Proofs.YtkgjbdbhpohkiaaW.PrintWords Go.Proofs.YtkgjbdbhpohkiaaW.PrintLast Go.Proofs.Ytkgjbdbhpohkiaa.Str Go.Proofs.Ytkgjbdbhpohkiaa.CodeLaw Go.Proofs.Ytkgjbdbhpohkiaa.LiRead Go.Proofs.Ytkgjbdbhpohkiaa.LiText Go.Proofs.Ytkgjbdbhpohkiaa.DigLaw
theorem fold_args (x : S37) : ∀ (cs : List UInt8) (y : S37), y.f5.length ≤ 8 → (∀ c ∈ cs, okC x c) → (cs.foldl (setC x) y).f5.length ≤ 8
  | [], y, h, _ => h
  | c :: cs, y, h, hc => by
    rw [List.foldl_cons]
    refine fold_args x cs _ ?_ (fun d hd => hc d (by simp [hd]))
    have h1 := hc c (by simp)
    unfold setC
    by_cases h5 : c = 108
    · subst h5; exact h1.1
    · rw [if_neg h5]
      repeat' split
      all_goals exact h
theorem args8 {x : S37} (h : GoodI x) : x.f5.length ≤ 8 := by
  have hi := inst_nat h
  have := fold_args x _ ⟨((x.f0.toNat : Nat) : Int), -1, -1, -1, 0, [], ⟨0, 0⟩⟩ (by show ([] : List Int).length ≤ 8; decide) hi.ok
  rwa [hi.e] at this
theorem lw_inst {x : S37} (h : GoodI x) : ∃ K, ∀ k, K ≤ k → lwOne k x = true := by
  obtain ⟨K1, h1⟩ := inst_ev (inst_nat h) (by have := args8 h; omega)
  obtain ⟨K2, h2⟩ := ref_inst h (args8 h)
  refine ⟨max K1 K2, fun k hk => ?_⟩
  unfold lwOne
  have e1 := h1 k (by omega)
  have e2 := h2 k (by omega)
  simp only at e1 e2
  rw [e1, e2]
  exact beq_iff_eq.mpr rfl
theorem lw_insts : ∀ xs : List S37, (∀ x ∈ xs, GoodI x) → ∃ K, ∀ k, K ≤ k → xs.all (lwOne k) = true
  | [], _ => ⟨0, fun _ _ => rfl⟩
  | x :: xs, h => by
    obtain ⟨K1, h1⟩ := lw_inst (h x (by simp))
    obtain ⟨K2, h2⟩ := lw_insts xs (fun y hy => h y (by simp [hy]))
    refine ⟨max K1 K2, fun k hk => ?_⟩
    rw [List.all_cons, h1 k (by omega), h2 k (by omega)]
    rfl
theorem lw_bodies : ∀ l : List S33, (∀ f ∈ l, GoodB f) → ∃ K, ∀ k, K ≤ k → lwAll k l = true
  | [], _ => ⟨0, fun _ _ => rfl⟩
  | f :: l, h => by
    obtain ⟨K1, h1⟩ := lw_insts f.f2 (h f (by simp)).i
    obtain ⟨K2, h2⟩ := lw_bodies l (fun y hy => h y (by simp [hy]))
    refine ⟨max K1 K2, fun k hk => ?_⟩
    have hn := (h f (by simp)).n
    have e2 := h2 k (by omega)
    unfold lwAll at e2 ⊢
    rw [List.all_cons, h1 k (by omega), e2, decide_eq_true (by omega)]
    rfl
theorem ListingWrites : ListingWrites.Good := by
  rintro l op ⟨hl, hg⟩ -
  have hp : ∀ f ∈ l, f.f0.length ≤ 140737488351232 := fun f h => by have := (hg f h).1.1; omega
  have hb : ∀ f ∈ l, f.f2.length ≤ 140737488351232 := fun f h => by have := (hg f h).2.2.1; omega
  have ha : ∀ f ∈ l, ∀ x ∈ f.f2, x.f5.length ≤ 140737488351232 := fun f h x hx => by have := ((hg f h).2.2.2 x hx).2.2.2.2.2.1.1; omega
  have hf : ∀ f ∈ l, Fit f := fun f h => ⟨by have := hp f h; omega, by have := hb f h; omega, fun x hx => by have := ha f h x hx; omega⟩
  obtain ⟨b, hlight, hw⟩ := light_any l (by omega) hp hb ha
  refine Ev.rounds (g := fun k => turntablelaw37_ListingWrites.f k l op) ?_
  unfold turntablelaw37_ListingWrites.f
  refine ev_bind'' hlight ?_
  cases b with
  | false => exact ev_pos rfl (Ev.now _)
  | true =>
    refine ev_neg (by simp) (ev_bind'' (ref_chk l hf) ?_)
    by_cases h0 : (chk l).1 = 0
    · have hwl := hw rfl
      obtain ⟨g1, g2⟩ := good_all (fun f h x hx => i64_bounds ((hg f h).2.2.2 x hx).2.2.2.2.1) h0
      have h8 : ∀ f ∈ l, ∀ x ∈ f.f2, x.f5.length ≤ 8 := fun f h x hx => args8 ((g2 f h).i x hx)
      have ht := text_len l g2
      obtain ⟨w1, w2, e1, e2, e3⟩ := word_all op
      obtain ⟨K, hK⟩ := lw_bodies l g2
      refine ev_pos h0 (ev_some e1 (ev_some e2 (ev_bind'' (listing_text g1 g2 (fun f h x hx => by have := h8 f h x hx; omega) (by omega)) (ev_bind'' (ref_text g1 g2 h8 (by omega)) ⟨K, fun k hk => ?_⟩))))
      exact if_pos ⟨e3, rfl, hK k hk, by omega⟩
    · exact ev_neg h0 (Ev.now _)
end Go.Proofs.Ytkgjbdbhpohkiaa.Pure
end
-- from YtkgjbdbhpohkiaaLawListingWrites
section
namespace Go.Proofs.Ytkgjbdbhpohkiaa.listingWrites
open Go.ChangeShapes Go.WideShapes Go.ChangeAt Go.RowKit
open Go.ChangeMaps (open_string shut_string)
open Go.Proofs.Ytkgjbdbhpohkiaa.PLi Go.Proofs.Ytkgjbdbhpohkiaa.Open Go.Proofs.Ytkgjbdbhpohkiaa.ListingWritesSaid
set_option linter.unusedVariables false
theorem own : ownKnob Try.prog.godebug = none := by kernel_rfl
theorem laidOut : laidOutB Try.prog = true := by kernel_rfl
set_option maxHeartbeats 4000000 in
set_option maxRecDepth 100000 in
theorem lifted (os : Os) (started : os.Started) (H : Type) (enc : TypeId × Value → H) :
    ReturnsInHanded {} Try.checked os 3 .any (Rows.listingWritesSpec.pre6 enc Try.prog Try.f3 Rows.listingWritesRow.domain false) (Rows.listingWritesSpec.post enc Try.prog Try.f3 false true false false) := by
  refine returnsInHanded_of_change_sized (C := Try.checked) own started (by kernel_rfl) Try.func3
    (ChangeSpec.witness6 (enc := enc) (C := Try.checked) false ⟨#[], #[.slice none 0 0, .int .i64 0], []⟩ 8 (by kernel_rfl) (by kernel_rfl) (by kernel_rfl) (by kernel_rfl)) ?_
  intro W base args ds gs before hval0 hW hcnd hsz0 _
  have hsz : (DataW.weightsEach Try.prog (Try.f3.params.toList ++ Rows.listingWritesSpec.plain.varTypes Try.prog) (ds ++ gs)).all (· ≤ reachBytes) = true := hsz0
  have hval : ∀ (j : Nat) t v, Try.f3.params[j]? = some t → args[j]? = some v → Value.okWide Try.prog W .any base t v := hval0
  have hW' := hW
  obtain ⟨p, q, hA0, hV, rfl, hfz, hnd⟩ := hW
  have hA : DataW.TrodAll enc Try.prog W 0 (fun _ => true) true Try.f3.params.toList args.toList ds p := hA0
  rw [Try.params3] at hA hval hsz
  obtain ⟨v0, vs0, d0, ds0, p0, q0, hargs, rfl, rfl, h0, r0⟩ := trodAll_cons hA
  obtain ⟨v1, vs1, d1, ds1, p1, q1, rfl, rfl, rfl, h1, r1⟩ := trodAll_cons r0
  obtain ⟨rfl, rfl, rfl⟩ := trodAll_nil r1
  obtain rfl : args = #[v0, v1] := by cases args; simp_all
  obtain ⟨rfl, rfl⟩ := trodVars_none hV
  have k0 := h0
  have lt0 : ∀ x ∈ p0, x.block < W.heap.size := by obtain ⟨m, hm⟩ := k0; exact DataW.trod_lt m _ _ _ hm
  have wt0 : ∀ n ∈ d0.weights Try.prog 22, n ≤ reachBytes := fun n hn => by simpa using List.all_eq_true.1 hsz n (DataW.weights_mem_each (j := 0) (t := 22) rfl rfl n hn)
  obtain ⟨fuel0, hf0⟩ := h0
  obtain ⟨a0, K0, y0⟩ := (opens_slice (e' := 33) (B := 56) Try.underlying22 open33 (by kernel_rfl) (by kernel_rfl)) enc W fuel0 _ _ hf0 wt0
  obtain ⟨A0, len0, c0, rfl⟩ := okWide_slice Try.underlying22 (hval 0 22 v0 rfl rfl)
  obtain ⟨A0', c0', e0, l0, C0⟩ := K0
  simp only [Value.cells, List.cons.injEq, Value.slice.injEq, and_true] at e0
  obtain ⟨rfl, rfl, rfl⟩ := e0
  obtain ⟨a1, rfl, rfl, rfl, w1⟩ := open_int Try.underlying3 (hval 1 3 v1 rfl rfl) h1
  clear hA0 hval0 hsz0 hsz
  obtain ⟨k, hk⟩ := Pure.ListingWrites a0 a1 y0 w1
  refine (turntablelaw37_ListingWrites.calls k _ _ a0 a1 true W C0 l0 hk).mono ?_
  rintro e W' ⟨rfl, hd_⟩
  have bel : Below W.heap.size W W' := hd_
  exact ⟨_, rfl, _, _, _, [], _, [], hW', trodAll_mk1 (shut_bool Try.underlying4 _), (trodAll_cons_mk (Below.trod laidOut (by kernel_rfl) (of_decide_eq_true (by kernel_rfl)) k0 bel lt0) (trodAll_cons_mk (shut_int Try.underlying3 w1) trodAll_mk0)), rfl, bel.frame _, fun h => by cases h⟩
theorem over : Rows.listingWritesRow.holds Try.pinned (OpenSpec.ofChange Rows.listingWritesSpec) :=
  OpenClaim.holds_of_wide 3 Try.f3 rfl rfl rfl rfl rfl rfl rfl ⟨rfl, rfl, rfl, rfl, rfl⟩ rfl rfl rfl rfl rfl (by kernel_rfl) Try.func3 (by kernel_rfl)
    (of_decide_eq_true (by kernel_rfl)) (by unfold Func.isWrapper; first | (rw [if_pos (by decide +kernel)]; kernel_rfl) | (rw [if_neg (by decide +kernel)]; exact ⟨rfl, rfl⟩))
    (fun os started H enc _ => lifted os started H enc)
theorem proved : Rows.ListingWritesSaid := over
#print axioms proved
end Go.Proofs.Ytkgjbdbhpohkiaa.listingWrites
namespace Go.Proofs.Ytkgjbdbhpohkiaa
theorem listingWrites_holds : Rows.ListingWritesSaid := listingWrites.proved
end Go.Proofs.Ytkgjbdbhpohkiaa
end
