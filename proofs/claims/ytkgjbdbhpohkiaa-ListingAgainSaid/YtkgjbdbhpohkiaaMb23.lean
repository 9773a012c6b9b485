import Derived.Test.YtkgjbdbhpohkiaaMb21
import Derived.Test.YtkgjbdbhpohkiaaMb22
import Derived.Test.YtkgjbdbhpohkiaaMb14
import Derived.Test.YtkgjbdbhpohkiaaMb16
import Derived.Test.YtkgjbdbhpohkiaaMb20
import Derived.Test.YtkgjbdbhpohkiaaRows
import Derived.WalkKit
import Derived.ProofKit
import Derived.OpenShut
import Derived.ShutString
import Derived.ChangeOld
import Derived.Below
import Derived.SizedLaws
section
/- Bodies that may be, as a text: what listing.Text writes, and which words it is split into. -/
namespace Go.Proofs.Ytkgjbdbhpohkiaa.LiText
open Go.RowKit Go.Proofs.YtkgjbdbhpohkiaaW.PrintWords Go.Proofs.YtkgjbdbhpohkiaaW.PrintLast Go.Proofs.YtkgjbdbhpohkiaaW.PrintMore Go.Proofs.Ytkgjbdbhpohkiaa.Str Go.Proofs.Ytkgjbdbhpohkiaa.Dig Go.Proofs.Ytkgjbdbhpohkiaa.DigLaw Go.Proofs.Ytkgjbdbhpohkiaa.CodeLaw Go.Proofs.Ytkgjbdbhpohkiaa.PLi Go.Proofs.Ytkgjbdbhpohkiaa.LiRead
set_option linter.unusedSimpArgs false
set_option linter.unusedVariables false

/-! ### the letters behind an operation -/
def lettP (op p : Int) : List UInt8 := if p = 0 then [100] else if p = 1 then (if op = 21 then [102] else [97]) else if p = 2 then [98] else if p = 3 then [110] else if p = 4 then [110] else if p = 5 then [108] else if p = 6 then [111] else if p = 7 then [111, 116] else []
theorem parts_pieces : ∀ n : Fin 31, (partsT n).data.toList = (piecesL ((n : Nat) : Int)).flatMap (lettP ((n : Nat) : Int)) := by decide +kernel
def okC (x : S37) (c : UInt8) : Prop :=
  if c = 100 then -1 ≤ x.f1 ∧ x.f1 ≤ 4095 else if c = 97 then -1 ≤ x.f2 ∧ x.f2 ≤ 4095 else if c = 98 then -1 ≤ x.f3 ∧ x.f3 ≤ 4095 else if c = 102 then 0 ≤ x.f2 ∧ x.f2 ≤ 31
  else if c = 110 then -9223372036854775808 ≤ x.f4 ∧ x.f4 ≤ 9223372036854775807 else if c = 108 then x.f5.length ≤ 8 ∧ ∀ v ∈ x.f5, 0 ≤ v ∧ v ≤ 4095
  else if c = 111 then 0 ≤ x.f6.f0 ∧ x.f6.f0 ≤ 65535 else if c = 116 then 0 ≤ x.f6.f1 ∧ x.f6.f1 ≤ 65535 else False
def setC (x y : S37) (c : UInt8) : S37 :=
  if c = 100 then ⟨y.f0, x.f1, y.f2, y.f3, y.f4, y.f5, y.f6⟩ else if c = 97 then ⟨y.f0, y.f1, x.f2, y.f3, y.f4, y.f5, y.f6⟩ else if c = 98 then ⟨y.f0, y.f1, y.f2, x.f3, y.f4, y.f5, y.f6⟩ else if c = 102 then ⟨y.f0, y.f1, x.f2, y.f3, y.f4, y.f5, y.f6⟩
  else if c = 110 then ⟨y.f0, y.f1, y.f2, y.f3, x.f4, y.f5, y.f6⟩ else if c = 108 then ⟨y.f0, y.f1, y.f2, y.f3, y.f4, x.f5, y.f6⟩ else if c = 111 then ⟨y.f0, y.f1, y.f2, y.f3, y.f4, y.f5, ⟨x.f6.f0, y.f6.f1⟩⟩ else if c = 116 then ⟨y.f0, y.f1, y.f2, y.f3, y.f4, y.f5, ⟨y.f6.f0, x.f6.f1⟩⟩ else y
theorem set_letters (x y : S37) (op p : Int) : (lettP op p).foldl (setC x) y = setP x y p := by
  unfold lettP setP
  by_cases h0 : p = 0
  · simp [h0, setC]
  by_cases h1 : p = 1
  · by_cases ho : op = 21 <;> simp [h1, ho, setC]
  by_cases h2 : p = 2
  · simp [h2, setC]
  by_cases h3 : p = 3
  · simp [h3, setC]
  by_cases h4 : p = 4
  · simp [h4, setC]
  by_cases h5 : p = 5
  · simp [h5, setC]
  by_cases h6 : p = 6
  · simp [h6, setC]
  by_cases h7 : p = 7
  · simp [h7, setC]
  simp [h0, h1, h2, h3, h4, h5, h6, h7]
theorem fold_letters (x : S37) (op : Int) : ∀ (ps : List Int) (y : S37), (ps.flatMap (lettP op)).foldl (setC x) y = ps.foldl (setP x) y := by
  intro ps
  induction ps with
  | nil => intro y; rfl
  | cons p ps ih => intro y; rw [List.flatMap_cons, List.foldl_append, set_letters, ih, List.foldl_cons]
theorem ok_letters (x : S37) (p : Int) (h : okW x p) : ∀ c ∈ lettP x.f0 p, okC x c := by
  intro c hc
  unfold lettP at hc
  unfold okW at h
  by_cases h0 : p = 0
  · rw [if_pos h0] at h hc; rw [List.mem_singleton] at hc; subst hc; exact h
  rw [if_neg h0] at h hc
  by_cases h1 : p = 1
  · rw [if_pos h1] at h hc
    by_cases ho : x.f0 = 21
    · rw [if_pos ho, List.mem_singleton] at hc; subst hc; exact h.1 ho
    · rw [if_neg ho, List.mem_singleton] at hc; subst hc; exact h.2 ho
  rw [if_neg h1] at h hc
  by_cases h2 : p = 2
  · rw [if_pos h2] at h hc; rw [List.mem_singleton] at hc; subst hc; exact h
  rw [if_neg h2] at h hc
  by_cases h3 : p = 3
  · rw [if_pos h3] at h hc; rw [List.mem_singleton] at hc; subst hc; exact h
  rw [if_neg h3] at h hc
  by_cases h4 : p = 4
  · rw [if_pos h4] at h hc; rw [List.mem_singleton] at hc; subst hc; exact h
  rw [if_neg h4] at h hc
  by_cases h5 : p = 5
  · rw [if_pos h5] at h hc; rw [List.mem_singleton] at hc; subst hc; exact h
  rw [if_neg h5] at h hc
  by_cases h6 : p = 6
  · rw [if_pos h6] at h hc; rw [List.mem_singleton] at hc; subst hc; exact h
  rw [if_neg h6] at h hc
  by_cases h7 : p = 7
  · rw [if_pos h7] at h hc
    rcases List.mem_cons.mp hc with rfl | hc
    · exact h.1
    · rw [List.mem_singleton] at hc; subst hc; exact h.2
  rw [if_neg h7] at hc
  cases hc
/-- What an instruction that may be has of its letters. -/
structure InstOk (x : S37) (n : Nat) : Prop where
  op : x.f0 = (n : Int)
  le : n ≤ 30
  ne : piecesL (n : Int) ≠ []
  ok : ∀ c ∈ (partsT n).data.toList, okC x c
  e : (partsT n).data.toList.foldl (setC x) ⟨(n : Int), -1, -1, -1, 0, [], ⟨0, 0⟩⟩ = x
theorem piecesL_in {op : Int} (h : piecesL op ≠ []) : 1 ≤ op ∧ op ≤ 30 := by
  unfold piecesL at h
  by_cases g : 1 ≤ op ∧ op ≤ 30
  · exact g
  · exfalso
    apply h
    repeat rw [if_neg (by omega)]
theorem inst_ok {x : S37} (h : GoodI x) : ∃ n, InstOk x n := by
  have hb := piecesL_in h.ne
  obtain ⟨n, hn⟩ := Int.eq_ofNat_of_zero_le (show 0 ≤ x.f0 by omega)
  have hn30 : n ≤ 30 := by omega
  have hp := parts_pieces ⟨n, by omega⟩
  replace hp : (partsT n).data.toList = (piecesL (n : Int)).flatMap (lettP (n : Int)) := hp
  refine ⟨n, hn, hn30, by rw [← hn]; exact h.ne, ?_, ?_⟩
  · rw [hp, ← hn]
    intro c hc
    obtain ⟨p, hp1, hp2⟩ := List.mem_flatMap.mp hc
    exact ok_letters x p (h.r p hp1) c hp2
  · rw [hp, fold_letters, ← hn]
    exact h.e

/-! ### the text -/
def slotW (s : Int) : List UInt8 := if s < 0 then [95] else 115 :: digs s
def joinS (ws : List (List UInt8)) : List UInt8 := Lib.join ws [32]
def listL (l : List Int) : List UInt8 := 40 :: joinS (l.map slotW) ++ [41]
def letterL (x : S37) (c : UInt8) : List UInt8 :=
  if c = 100 then slotW x.f1 else if c = 97 then slotW x.f2 else if c = 98 then slotW x.f3 else if c = 102 then 102 :: digs x.f2 else if c = 110 then digs x.f4 else if c = 108 then listL x.f5 else if c = 111 then 64 :: digs x.f6.f0 else if c = 116 then 64 :: digs x.f6.f1 else []
def instL (x : S37) (n : Nat) : List UInt8 := joinS ((wordT n).data.toList :: (partsT n).data.toList.map (letterL x))
theorem digs_len (n : Int) (h0 : -9223372036854775808 ≤ n) (h1 : n ≤ 9223372036854775807) : (digs n).length ≤ 20 := by
  have := pd_len 19 n.natAbs (by omega)
  unfold digs
  split
  · simp
  · split
    · rw [List.length_cons]; omega
    · omega
theorem slotW_len (s : Int) (h0 : -1 ≤ s) (h1 : s ≤ 4095) : (slotW s).length ≤ 21 := by
  have := digs_len s (by omega) (by omega)
  unfold slotW
  split
  · simp
  · rw [List.length_cons]; omega
theorem slot_some (s : Int) (h0 : -1 ≤ s) (h1 : s ≤ 4095) : listing_slot.f s = some (mk (slotW s)) := by
  unfold listing_slot.f slotW
  by_cases h : s < 0
  · rw [if_pos h, if_pos h]
  · have hl := digs_len s (by omega) (by omega)
    rw [if_neg h, if_neg h, small_some s (by omega) (by omega)]
    show (if 1 + (mk (digs s)).size ≤ _ then _ else _) = _
    rw [if_pos (by rw [mk_size]; omega), show (⟨#[115]⟩ : ByteArray) = mk [115] from rfl, mk_append]
    rfl
theorem joinTail_cons (w : List UInt8) (ws : List (List UInt8)) : Lib.joinTail [32] (w :: ws) = 32 :: (w ++ Lib.joinTail [32] ws) := by
  unfold Lib.joinTail
  rw [List.map_cons, List.flatten_cons]
  rfl
theorem joinS_cons (w : List UInt8) (ws : List (List UInt8)) : joinS (w :: ws) = w ++ Lib.joinTail [32] ws := Lib.join_cons w ws [32]
theorem joinTail_len (m : Nat) : ∀ ws : List (List UInt8), (∀ w ∈ ws, w.length ≤ m) → (Lib.joinTail [32] ws).length ≤ ws.length * (m + 1) := by
  intro ws
  induction ws with
  | nil => intro _; simp [Lib.joinTail]
  | cons w ws ih =>
    intro h
    rw [joinTail_cons, List.length_cons, List.length_append, List.length_cons, Nat.succ_mul]
    have h1 := h w (by simp)
    have h2 := ih (fun v hv => h v (by simp [hv]))
    omega
theorem joinS_len (m : Nat) (ws : List (List UInt8)) (h : ∀ w ∈ ws, w.length ≤ m) : (joinS ws).length ≤ ws.length * (m + 1) := by
  cases ws with
  | nil => simp [joinS, Lib.join]
  | cons w ws =>
    rw [joinS_cons, List.length_append, List.length_cons, Nat.succ_mul]
    have h1 := h w (by simp)
    have h2 := joinTail_len m ws (fun v hv => h v (by simp [hv]))
    omega
theorem joinB_mk (ws : List (List UInt8)) : joinB (ws.map mk) (mk [32]) = mk (joinS ws) := by
  unfold joinB joinS
  rw [List.map_map, show ((fun x : ByteArray => x.data.toList) ∘ mk) = id from rfl, List.map_id]
theorem join_some (ws : List (List UInt8)) (hl : ws.length ≤ 1000000) (h : (joinS ws).length ≤ 140737488355328) : strings_Join.f (ws.map mk) (mk [32]) = some (mk (joinS ws)) := by
  unfold strings_Join.f
  rw [joinB_mk, if_pos ⟨by rw [List.length_map]; omega, by rw [mk_size]; exact h⟩]
theorem listL_len (l : List Int) (h : ∀ v ∈ l, 0 ≤ v ∧ v ≤ 4095) : (listL l).length ≤ 2 + 22 * l.length := by
  unfold listL
  have := joinS_len 21 (l.map slotW) (fun w hw => by
    obtain ⟨v, hv, rfl⟩ := List.mem_map.mp hw
    exact slotW_len v (by have := h v hv; omega) (by have := h v hv; omega))
  rw [List.length_map] at this
  simp only [List.length_append, List.length_cons, List.length_nil]
  omega
theorem list_l0 (l : List Int) (hl : l.length ≤ 8) (h : ∀ v ∈ l, 0 ≤ v ∧ v ≤ 4095) : ∀ (d i : Nat), l.length - i = d → i ≤ l.length → Ev (fun k => listing_list.l0 k (((l.take i).map slotW).map mk) l (l.length : Int) (i : Int)) (mk (listL l)) := by
  intro d
  induction d with
  | zero =>
    intro i hd hi
    have hlen := listL_len l h
    have e : l.take i = l := List.take_of_length_le (by omega)
    have hj : (joinS (l.map slotW)).length ≤ 200 := by unfold listL at hlen; simp only [List.length_append, List.length_cons, List.length_nil] at hlen; omega
    rw [e]
    refine Ev.step (fun k => by simp only [listing_list.l0]; rfl) (ev_neg (by omega) (ev_some (join_some (l.map slotW) (by rw [List.length_map]; omega) (by omega)) (ev_pos (c := 1 + (mk (joinS (l.map slotW))).size ≤ 9223372036854775807) (by rw [mk_size]; omega) ?_)))
    rw [show (⟨#[40]⟩ : ByteArray) = mk [40] from rfl, show (⟨#[41]⟩ : ByteArray) = mk [41] from rfl, mk_append]
    refine ev_pos (by rw [mk_size]; simp; omega) ?_
    rw [mk_append]
    exact Ev.now _
  | succ d ih =>
    intro i hd hi
    have hi' : i < l.length := by omega
    have hv := h _ (List.getElem_mem hi')
    have hw : wrap64 ((i : Int) + 1) = ((i + 1 : Nat) : Int) := by rw [w64 (by omega) (by omega)]; omega
    refine Ev.step (fun k => by simp only [listing_list.l0]; rfl) (ev_pos (by omega) (ev_pos (by omega) (ev_pos (by omega) ?_)))
    rw [rd_at l i hi']
    refine ev_some (slot_some _ (by omega) hv.2) (ev_pos (by rw [List.length_map, List.length_map, List.length_take]; omega) ?_)
    have hr := ih (i + 1) (by omega) (by omega)
    rw [List.take_succ_eq_append_getElem hi', List.map_append, List.map_append] at hr
    rw [hw]
    exact hr
theorem list_ev (l : List Int) (hl : l.length ≤ 8) (h : ∀ v ∈ l, 0 ≤ v ∧ v ≤ 4095) : Ev (fun k => listing_list.f k l) (mk (listL l)) := list_l0 l hl h _ 0 rfl (Nat.zero_le _)
theorem letter_len (x : S37) (c : UInt8) (h : okC x c) : (letterL x c).length ≤ 22 + 22 * x.f5.length := by
  unfold okC at h
  unfold letterL
  by_cases h0 : c = 100
  · rw [if_pos h0] at h ⊢; have := slotW_len _ h.1 h.2; omega
  rw [if_neg h0] at h ⊢
  by_cases h1 : c = 97
  · rw [if_pos h1] at h ⊢; have := slotW_len _ h.1 h.2; omega
  rw [if_neg h1] at h ⊢
  by_cases h2 : c = 98
  · rw [if_pos h2] at h ⊢; have := slotW_len _ h.1 h.2; omega
  rw [if_neg h2] at h ⊢
  by_cases h3 : c = 102
  · rw [if_pos h3] at h ⊢; have := digs_len x.f2 (by omega) (by omega); rw [List.length_cons]; omega
  rw [if_neg h3] at h ⊢
  by_cases h4 : c = 110
  · rw [if_pos h4] at h ⊢; have := digs_len _ h.1 h.2; omega
  rw [if_neg h4] at h ⊢
  by_cases h5 : c = 108
  · rw [if_pos h5] at h ⊢; have := listL_len _ h.2; omega
  rw [if_neg h5] at h ⊢
  by_cases h6 : c = 111
  · rw [if_pos h6] at h ⊢; have := digs_len x.f6.f0 (by omega) (by omega); rw [List.length_cons]; omega
  rw [if_neg h6] at h ⊢
  by_cases h7 : c = 116
  · rw [if_pos h7] at h ⊢; have := digs_len x.f6.f1 (by omega) (by omega); rw [List.length_cons]; omega
  rw [if_neg h7] at h
  exact h.elim
theorem small_at (b : UInt8) (v : Int) (h0 : 0 ≤ v) (h1 : v ≤ 65535) : ((digits_Small.f v).bind fun s => if 1 + s.size ≤ 9223372036854775807 then some (mk [b] ++ s) else none) = some (mk (b :: digs v)) := by
  have := digs_len v (by omega) (by omega)
  rw [small_some v (by omega) (by omega)]
  show (if 1 + (mk (digs v)).size ≤ _ then _ else _) = _
  rw [if_pos (by rw [mk_size]; omega), mk_append]
  rfl
theorem piece_ev (x : S37) (c : UInt8) (h : okC x c) : Ev (fun k => liPiece k x.f1 x.f2 x.f3 x.f4 x.f5 x.f6.f0 x.f6.f1 c.toNat) (mk (letterL x c)) := by
  unfold okC at h
  unfold letterL liPiece
  by_cases h0 : c = 100
  · subst h0; simp only [if_pos rfl] at h ⊢; exact Ev.congr (fun k => slot_some _ h.1 h.2) (Ev.now _)
  by_cases h1 : c = 97
  · subst h1; exact Ev.congr (fun k => slot_some _ h.1 h.2) (Ev.now _)
  by_cases h2 : c = 98
  · subst h2; exact Ev.congr (fun k => slot_some _ h.1 h.2) (Ev.now _)
  by_cases h3 : c = 102
  · subst h3; exact Ev.congr (fun k => small_at 102 x.f2 h.1 (by have h' : 0 ≤ x.f2 ∧ x.f2 ≤ 31 := h; omega)) (Ev.now _)
  by_cases h4 : c = 110
  · subst h4; exact Ev.congr (fun k => print_some _ h.1 h.2) (Ev.now _)
  by_cases h5 : c = 108
  · subst h5; exact list_ev x.f5 h.1 h.2
  by_cases h6 : c = 111
  · subst h6; exact Ev.congr (fun k => small_at 64 x.f6.f0 h.1 h.2) (Ev.now _)
  by_cases h7 : c = 116
  · subst h7; exact Ev.congr (fun k => small_at 64 x.f6.f1 h.1 h.2) (Ev.now _)
  rw [if_neg h0, if_neg h1, if_neg h2, if_neg h3, if_neg h4, if_neg h5, if_neg h6, if_neg h7] at h
  exact h.elim
theorem words_ev (x : S37) : ∀ cs : List UInt8, (∀ c ∈ cs, okC x c) → Ev (fun k => liWords k x.f1 x.f2 x.f3 x.f4 x.f5 x.f6.f0 x.f6.f1 cs) ((cs.map (letterL x)).map mk)
  | [], _ => Ev.now _
  | c :: cs, h => ev_bind'' (piece_ev x c (h c (by simp))) (ev_bind'' (words_ev x cs (fun d hd => h d (by simp [hd]))) (Ev.now _))
theorem word_ok : ∀ n : Fin 31, (wordT n).data.toList.length ≤ 10 ∧ (piecesL ((n : Nat) : Int) ≠ [] → (wordT n).data.toList ≠ [] ∧ (wordT n).data.toList.all (fun c => decide (kindR c.toNat = 2)) = true) := by decide +kernel
theorem instL_len {x : S37} {n : Nat} (h : InstOk x n) : (instL x n).length ≤ 196 + 176 * x.f5.length := by
  obtain ⟨ho, -⟩ := parts_ok ⟨n, by have := h.le; omega⟩
  have hw := (word_ok ⟨n, by have := h.le; omega⟩).1
  unfold instL
  rw [joinS_cons, List.length_append]
  have := joinTail_len (22 + 22 * x.f5.length) ((partsT n).data.toList.map (letterL x)) (fun w hw => by
    obtain ⟨c, hc, rfl⟩ := List.mem_map.mp hw
    exact letter_len x c (h.ok c hc))
  rw [List.length_map, ← size_data] at this
  have h8 : (partsT n).size ≤ 8 := ho.2
  have hw' : (wordT n).data.toList.length ≤ 10 := hw
  have : (partsT n).size * (22 + 22 * x.f5.length + 1) ≤ 8 * (22 + 22 * x.f5.length + 1) := Nat.mul_le_mul_right _ h8
  omega
theorem inst_ev {x : S37} {n : Nat} (h : InstOk x n) (hb : x.f5.length ≤ 1000000) : Ev (fun k => instS k x) (mk (instL x n)) := by
  have hn := h.le
  obtain ⟨ho, -⟩ := parts_ok ⟨n, by omega⟩
  unfold instS listing_Inst.f
  rw [h.op]
  refine ev_some (word_some ⟨n, by omega⟩) (ev_bind'' (parts_ev n hn) (ev_pos ho (ev_bind'' (words_ev x _ h.ok) ?_)))
  have hl := instL_len h
  have h8 : (partsT n).size ≤ 8 := ho.2
  have := join_some ((wordT n).data.toList :: (partsT n).data.toList.map (letterL x)) (by rw [List.length_cons, List.length_map, ← size_data]; omega) (by unfold instL at hl; omega)
  exact Ev.congr (fun k => this) (Ev.now _)
end Go.Proofs.Ytkgjbdbhpohkiaa.LiText
end
section
/- There and back: what listing.Text writes of bodies that may be, listing.Read reads as these bodies. -/
namespace Go.Proofs.Ytkgjbdbhpohkiaa.LiText
open Go.RowKit Go.Proofs.YtkgjbdbhpohkiaaW.PrintWords Go.Proofs.YtkgjbdbhpohkiaaW.PrintLast Go.Proofs.YtkgjbdbhpohkiaaW.PrintMore Go.Proofs.Ytkgjbdbhpohkiaa.Str Go.Proofs.Ytkgjbdbhpohkiaa.Dig Go.Proofs.Ytkgjbdbhpohkiaa.DigLaw Go.Proofs.Ytkgjbdbhpohkiaa.CodeLaw Go.Proofs.Ytkgjbdbhpohkiaa.PLi Go.Proofs.Ytkgjbdbhpohkiaa.LiRead
set_option linter.unusedSimpArgs false
set_option linter.unusedVariables false

/-! ### bodies as a text -/
def lineL (x : S37) : List UInt8 := [32, 32] ++ instL x x.f0.toNat ++ [10]
def codeL (xs : List S37) : List UInt8 := xs.flatMap lineL
def headL (f : S33) : List UInt8 := [98, 111, 100, 121, 32] ++ listL f.f0 ++ [32] ++ digs f.f1 ++ [32, 123, 10]
def bodyL (f : S33) : List UInt8 := headL f ++ codeL f.f2 ++ [125, 10]
def textL (l : List S33) : List UInt8 := l.flatMap bodyL
theorem inst_nat {x : S37} (h : GoodI x) : InstOk x x.f0.toNat := by
  obtain ⟨n, hn⟩ := inst_ok h
  have : x.f0.toNat = n := by rw [hn.op]; omega
  rw [this]
  exact hn
theorem line_len {x : S37} (h : GoodI x) : (lineL x).length ≤ 200 * (1 + x.f5.length) := by
  have := instL_len (inst_nat h)
  unfold lineL
  simp only [List.length_append, List.length_cons, List.length_nil]
  omega
theorem code_len : ∀ xs : List S37, (∀ x ∈ xs, GoodI x) → (codeL xs).length ≤ 200 * wtI xs
  | [], _ => by simp [codeL]
  | x :: xs, h => by
    have h1 := line_len (h x (by simp))
    have h2 := code_len xs (fun y hy => h y (by simp [hy]))
    have e : wtI (x :: xs) = (1 + x.f5.length) + wtI xs := rfl
    have e2 : codeL (x :: xs) = lineL x ++ codeL xs := rfl
    rw [e, e2, List.length_append]
    omega
theorem head_len {f : S33} (h : GoodB f) : (headL f).length ≤ 31 + 22 * f.f0.length := by
  have h1 := listL_len f.f0 h.p.2
  have h2 := digs_len f.f1 (by have := h.s; omega) (by have := h.s; omega)
  unfold headL
  simp only [List.length_append, List.length_cons, List.length_nil]
  omega
theorem body_len {f : S33} (h : GoodB f) : (bodyL f).length ≤ 200 + 200 * wtB f := by
  have h1 := head_len h
  have h2 := code_len f.f2 h.i
  unfold bodyL wtB
  simp only [List.length_append, List.length_cons, List.length_nil]
  omega
theorem text_len : ∀ l : List S33, (∀ f ∈ l, GoodB f) → (textL l).length ≤ 200 * wtL l
  | [], _ => by simp [textL]
  | f :: l, h => by
    have h1 := body_len (h f (by simp))
    have h2 := text_len l (fun y hy => h y (by simp [hy]))
    have e : wtL (f :: l) = 1 + wtB f + wtL l := by
      show (l.length + 1) + (wtB f + (l.map wtB).sum) = _
      unfold wtL
      omega
    have e2 : textL (f :: l) = bodyL f ++ textL l := rfl
    rw [e, e2, List.length_append]
    omega
theorem code_ev : ∀ (xs : List S37) (acc : List UInt8), (∀ x ∈ xs, GoodI x) → (∀ x ∈ xs, x.f5.length ≤ 1000000) → acc.length + (codeL xs).length ≤ 140737488355328 → Ev (fun k => liCode k (mk acc) xs) (mk (acc ++ codeL xs))
  | [], acc, _, _, _ => by
    show Ev (fun _ => some (mk acc)) _
    rw [show codeL [] = [] from rfl, List.append_nil]
    exact Ev.now _
  | x :: xs, acc, h, hb, hl => by
    have e2 : codeL (x :: xs) = lineL x ++ codeL xs := rfl
    rw [e2, List.length_append] at hl
    have hi := inst_ev (inst_nat (h x (by simp))) (hb x (by simp))
    have hr := code_ev xs (acc ++ lineL x) (fun y hy => h y (by simp [hy])) (fun y hy => hb y (by simp [hy])) (by rw [List.length_append]; omega)
    have el : mk acc ++ lineS (mk (instL x x.f0.toNat)) = mk (acc ++ lineL x) := by
      unfold lineS lineL
      rw [show (⟨#[32, 32]⟩ : ByteArray) = mk [32, 32] from rfl, show (⟨#[10]⟩ : ByteArray) = mk [10] from rfl, mk_append, mk_append, mk_append]
    rw [e2, ← List.append_assoc]
    refine ev_bind'' hi (ev_pos ?_ ?_)
    · unfold lineL at hl
      simp only [List.length_append, List.length_cons, List.length_nil] at hl
      rw [mk_size, mk_size]
      omega
    · rw [el]
      exact hr
theorem text_ev : ∀ (l : List S33) (acc : List UInt8), (∀ f ∈ l, GoodB f) → (∀ f ∈ l, ∀ x ∈ f.f2, x.f5.length ≤ 1000000) → acc.length + (textL l).length ≤ 140737488355328 → Ev (fun k => liText k (mk acc) l) (mk (acc ++ textL l))
  | [], acc, _, _, _ => by
    show Ev (fun _ => some (mk acc)) _
    rw [show textL [] = [] from rfl, List.append_nil]
    exact Ev.now _
  | f :: l, acc, h, hb, hl => by
    have e2 : textL (f :: l) = bodyL f ++ textL l := rfl
    rw [e2, List.length_append] at hl
    have hf := h f (by simp)
    have hlen : (bodyL f).length = (headL f).length + (codeL f.f2).length + 2 := by unfold bodyL; simp only [List.length_append, List.length_cons, List.length_nil]
    have hhd : (headL f).length = 5 + (listL f.f0).length + 1 + (digs f.f1).length + 3 := by unfold headL; simp only [List.length_append, List.length_cons, List.length_nil]
    have hlist := list_ev f.f0 hf.p.1 hf.p.2
    have hsm := small_some f.f1 (by have := hf.s; omega) (by have := hf.s; omega)
    have hc := code_ev f.f2 (acc ++ headL f) hf.i (hb f (by simp)) (by rw [List.length_append]; omega)
    have hr := text_ev l (acc ++ bodyL f) (fun y hy => h y (by simp [hy])) (fun y hy => hb y (by simp [hy])) (by rw [List.length_append]; omega)
    have eh : mk acc ++ headS (mk (listL f.f0)) (mk (digs f.f1)) = mk (acc ++ headL f) := by
      unfold headS headL
      rw [show (⟨#[98, 111, 100, 121, 32]⟩ : ByteArray) = mk [98, 111, 100, 121, 32] from rfl, show (⟨#[32]⟩ : ByteArray) = mk [32] from rfl, show (⟨#[32, 123, 10]⟩ : ByteArray) = mk [32, 123, 10] from rfl, mk_append, mk_append, mk_append, mk_append, mk_append]
    have ee : mk (acc ++ headL f ++ codeL f.f2) ++ (⟨#[125, 10]⟩ : ByteArray) = mk (acc ++ bodyL f) := by
      rw [show (⟨#[125, 10]⟩ : ByteArray) = mk [125, 10] from rfl, mk_append]
      unfold bodyL
      simp only [List.append_assoc]
    rw [e2, ← List.append_assoc]
    refine ev_bind'' hlist (ev_some hsm (ev_pos (by rw [mk_size, mk_size, mk_size]; omega) ?_))
    rw [eh]
    refine ev_bind'' hc (ev_pos (by rw [mk_size, List.length_append, List.length_append]; omega) ?_)
    rw [ee]
    exact hr
theorem listing_text {l : List S33} (hl : l.length ≤ 32) (h : ∀ f ∈ l, GoodB f) (hb : ∀ f ∈ l, ∀ x ∈ f.f2, x.f5.length ≤ 1000000) (ht : (textL l).length ≤ 140737488355328) : Ev (fun k => listing_Text.f k l) (mk (textL l)) := by
  unfold listing_Text.f
  have := text_ev l [] h hb (by rw [List.length_nil]; omega)
  rw [List.nil_append] at this
  exact ev_pos (c := l.length ≤ 140737488355328 ∧ ∀ x ∈ l, x.f2.length ≤ 140737488355328) ⟨by omega, fun x hx => by have := (h x hx).n; omega⟩ this

/-! ### its words -/
def Item (q : List UInt8) (ws : List (List UInt8)) : Prop := q.all plainC = true ∧ ∀ (c : UInt8) (r : List UInt8), kindR c.toNat = 0 → wordsW (q ++ c :: r) [] = ws ++ wordsW r []
def Two (w : List UInt8) : Prop := w ≠ [] ∧ ∀ c ∈ w, kindR (c : UInt8).toNat = 2
theorem Two.plain {w : List UInt8} (h : Two w) : w.all plainC = true := by
  rw [List.all_eq_true]
  intro c hc
  unfold plainC
  rw [h.2 c hc]
  decide
theorem item_word {w : List UInt8} (h : Two w) : Item w [w] := ⟨h.plain, fun c r hc => wordsW_end w r c h.2 h.1 hc⟩
theorem pd_two (n : Nat) : ∀ c ∈ pd n, kindR (c : UInt8).toNat = 2 := by
  intro c hc
  have h1 := List.all_eq_true.mp (pd_isD n) c hc
  have h2 := (isD_iff c).mp h1
  unfold kindR
  rw [if_neg (by omega), if_neg (by omega), if_pos (by omega)]
theorem digs_two (n : Int) : Two (digs n) := by
  unfold digs
  by_cases h0 : n = 0
  · rw [if_pos h0]; exact ⟨by decide, by decide⟩
  · rw [if_neg h0]
    have hne : n.natAbs ≠ 0 := by omega
    by_cases h1 : n < 0
    · rw [if_pos h1]
      exact ⟨by simp, fun c hc => by
        rcases List.mem_cons.mp hc with rfl | hc
        · decide
        · exact pd_two _ c hc⟩
    · rw [if_neg h1]
      exact ⟨pd_ne_nil hne, pd_two _⟩
theorem cons_two {b : UInt8} {w : List UInt8} (hb : kindR b.toNat = 2) (h : Two w) : Two (b :: w) := ⟨by simp, fun c hc => by
  rcases List.mem_cons.mp hc with rfl | hc
  · exact hb
  · exact h.2 c hc⟩
theorem slotW_two (s : Int) : Two (slotW s) := by
  unfold slotW
  by_cases h : s < 0
  · rw [if_pos h]; exact ⟨by decide, by decide⟩
  · rw [if_neg h]; exact cons_two (by decide) (digs_two s)
theorem slots_sign : ∀ (ws : List (List UInt8)) (w : List UInt8) (r : List UInt8), Two w → (∀ v ∈ ws, Two v) → wordsW (w ++ (Lib.joinTail [32] ws ++ 41 :: r)) [] = w :: ws ++ [41] :: wordsW r [] := by
  intro ws
  induction ws with
  | nil => intro w r hw _; exact wordsW_sign w r 41 hw.2 hw.1 (by decide)
  | cons v ws ih =>
    intro w r hw h
    rw [joinTail_cons, List.cons_append, wordsW_end w _ 32 hw.2 hw.1 (by decide), List.append_assoc, ih v r (h v (by simp)) (fun u hu => h u (by simp [hu]))]
    rfl
theorem tail_plain : ∀ ws : List (List UInt8), (∀ w ∈ ws, w.all plainC = true) → (Lib.joinTail [32] ws).all plainC = true := by
  intro ws
  induction ws with
  | nil => intro _; rfl
  | cons w ws ih =>
    intro h
    rw [joinTail_cons, List.all_cons, List.all_append, h w (by simp), ih (fun v hv => h v (by simp [hv]))]
    decide
theorem joinS_plain (ws : List (List UInt8)) (h : ∀ w ∈ ws, w.all plainC = true) : (joinS ws).all plainC = true := by
  cases ws with
  | nil => rfl
  | cons w ws =>
    rw [joinS_cons, List.all_append, h w (by simp), tail_plain ws (fun v hv => h v (by simp [hv]))]
    rfl
def listWs (l : List Int) : List (List UInt8) := [40] :: l.map slotW ++ [[41]]
theorem item_list (l : List Int) : Item (listL l) (listWs l) := by
  refine ⟨?_, fun c r hc => ?_⟩
  · unfold listL
    rw [List.all_append, List.all_cons, joinS_plain _ (fun w hw => by
      obtain ⟨v, hv, rfl⟩ := List.mem_map.mp hw
      exact (slotW_two v).plain)]
    decide
  · unfold listL listWs
    rw [List.append_assoc, List.cons_append, wordsW_one _ 40 (by decide)]
    cases l with
    | nil =>
      show [40] :: wordsW (41 :: c :: r) [] = _
      rw [wordsW_one _ 41 (by decide), wordsW_blank r c hc]
      rfl
    | cons v l =>
      rw [List.map_cons, joinS_cons, List.append_assoc]
      show [40] :: wordsW (slotW v ++ (Lib.joinTail [32] (l.map slotW) ++ 41 :: c :: r)) [] = _
      rw [slots_sign _ _ _ (slotW_two v) (fun u hu => by
        obtain ⟨s, hs, rfl⟩ := List.mem_map.mp hu
        exact slotW_two s), wordsW_blank r c hc]
      simp
def letterWs (x : S37) (c : UInt8) : List (List UInt8) := if c = 108 then listWs x.f5 else [letterL x c]
theorem item_letter (x : S37) (c : UInt8) (h : okC x c) : Item (letterL x c) (letterWs x c) := by
  unfold letterWs
  unfold okC at h
  by_cases h5 : c = 108
  · subst h5; exact item_list x.f5
  rw [if_neg h5]
  refine item_word ?_
  unfold letterL
  by_cases h0 : c = 100
  · rw [if_pos h0]; exact slotW_two _
  rw [if_neg h0] at h ⊢
  by_cases h1 : c = 97
  · rw [if_pos h1]; exact slotW_two _
  rw [if_neg h1] at h ⊢
  by_cases h2 : c = 98
  · rw [if_pos h2]; exact slotW_two _
  rw [if_neg h2] at h ⊢
  by_cases h3 : c = 102
  · rw [if_pos h3]; exact cons_two (by decide) (digs_two _)
  rw [if_neg h3] at h ⊢
  by_cases h4 : c = 110
  · rw [if_pos h4]; exact digs_two _
  rw [if_neg h4, if_neg h5] at h ⊢
  by_cases h6 : c = 111
  · rw [if_pos h6]; exact cons_two (by decide) (digs_two _)
  rw [if_neg h6] at h ⊢
  by_cases h7 : c = 116
  · rw [if_pos h7]; exact cons_two (by decide) (digs_two _)
  rw [if_neg h7] at h
  exact h.elim
theorem items_tail (x : S37) : ∀ (cs : List UInt8) (q : List UInt8) (ws : List (List UInt8)) (c : UInt8) (r : List UInt8), Item q ws → (∀ d ∈ cs, okC x d) → kindR c.toNat = 0 → wordsW (q ++ (Lib.joinTail [32] (cs.map (letterL x)) ++ c :: r)) [] = ws ++ cs.flatMap (letterWs x) ++ wordsW r [] := by
  intro cs
  induction cs with
  | nil => intro q ws c r hq _ hc; rw [List.flatMap_nil, List.append_nil]; exact hq.2 c r hc
  | cons d cs ih =>
    intro q ws c r hq h hc
    rw [List.map_cons, joinTail_cons, List.cons_append, hq.2 32 _ (by decide), List.append_assoc, ih _ _ c r (item_letter x d (h d (by simp))) (fun e he => h e (by simp [he])) hc, List.flatMap_cons]
    simp only [List.append_assoc]
def instWs (x : S37) : List (List UInt8) := (wordT x.f0.toNat).data.toList :: (partsT x.f0.toNat).data.toList.flatMap (letterWs x)
theorem word_two {x : S37} {n : Nat} (h : InstOk x n) : Two (wordT n).data.toList := by
  obtain ⟨h1, h2⟩ := (word_ok ⟨n, by have := h.le; omega⟩).2 h.ne
  exact ⟨h1, fun c hc => of_decide_eq_true (List.all_eq_true.mp h2 c hc)⟩
theorem inst_plain {x : S37} (hx : GoodI x) : (instL x x.f0.toNat).all plainC = true := by
  have h := inst_nat hx
  unfold instL
  refine joinS_plain _ (fun w hw => ?_)
  rcases List.mem_cons.mp hw with rfl | hw
  · exact (word_two h).plain
  · obtain ⟨c, hc, rfl⟩ := List.mem_map.mp hw
    exact (item_letter x c (h.ok c hc)).1
theorem inst_words {x : S37} (hx : GoodI x) (r : List UInt8) : wordsW (lineL x ++ r) [] = instWs x ++ wordsW r [] := by
  have h := inst_nat hx
  unfold lineL instL instWs
  rw [joinS_cons]
  show wordsW (32 :: 32 :: (((wordT x.f0.toNat).data.toList ++ Lib.joinTail [32] ((partsT x.f0.toNat).data.toList.map (letterL x))) ++ [10] ++ r)) [] = _
  rw [wordsW_blank _ 32 (by decide), wordsW_blank _ 32 (by decide), List.append_assoc, List.append_assoc]
  show wordsW ((wordT x.f0.toNat).data.toList ++ (Lib.joinTail [32] ((partsT x.f0.toNat).data.toList.map (letterL x)) ++ 10 :: r)) [] = _
  rw [items_tail x _ _ _ 10 r (item_word (word_two h)) h.ok (by decide)]
  rfl
theorem code_words : ∀ (xs : List S37) (r : List UInt8), (∀ x ∈ xs, GoodI x) → wordsW (codeL xs ++ r) [] = xs.flatMap instWs ++ wordsW r []
  | [], r, _ => rfl
  | x :: xs, r, h => by
    have e2 : codeL (x :: xs) = lineL x ++ codeL xs := rfl
    rw [e2, List.append_assoc, inst_words (h x (by simp)), code_words xs r (fun y hy => h y (by simp [hy])), List.flatMap_cons, List.append_assoc]
def bodyWs (f : S33) : List (List UInt8) := [98, 111, 100, 121] :: (listWs f.f0 ++ (digs f.f1 :: [123] :: (f.f2.flatMap instWs ++ [[125]])))
theorem body_words {f : S33} (hf : GoodB f) (r : List UInt8) : wordsW (bodyL f ++ r) [] = bodyWs f ++ wordsW r [] := by
  unfold bodyL headL bodyWs
  simp only [List.append_assoc]
  show wordsW ([98, 111, 100, 121] ++ 32 :: (listL f.f0 ++ 32 :: (digs f.f1 ++ 32 :: 123 :: 10 :: (codeL f.f2 ++ 125 :: 10 :: r)))) [] = _
  rw [wordsW_end [98, 111, 100, 121] _ 32 (by decide) (by decide) (by decide), (item_list f.f0).2 32 _ (by decide), wordsW_end (digs f.f1) _ 32 (digs_two _).2 (digs_two _).1 (by decide), wordsW_one _ 123 (by decide), wordsW_blank _ 10 (by decide), code_words f.f2 _ hf.i, wordsW_one _ 125 (by decide), wordsW_blank _ 10 (by decide)]
  simp
theorem text_words : ∀ l : List S33, (∀ f ∈ l, GoodB f) → wordsW (textL l) [] = l.flatMap bodyWs
  | [], _ => rfl
  | f :: l, h => by
    have e2 : textL (f :: l) = bodyL f ++ textL l := rfl
    rw [e2, body_words (h f (by simp)), text_words l (fun y hy => h y (by simp [hy])), List.flatMap_cons]
theorem code_plain : ∀ xs : List S37, (∀ x ∈ xs, GoodI x) → (codeL xs).all plainC = true
  | [], _ => rfl
  | x :: xs, h => by
    have e2 : codeL (x :: xs) = lineL x ++ codeL xs := rfl
    rw [e2, List.all_append, code_plain xs (fun y hy => h y (by simp [hy]))]
    unfold lineL
    rw [List.all_append, List.all_append, inst_plain (h x (by simp))]
    decide
theorem text_plain : ∀ l : List S33, (∀ f ∈ l, GoodB f) → (textL l).all plainC = true
  | [], _ => rfl
  | f :: l, h => by
    have e2 : textL (f :: l) = bodyL f ++ textL l := rfl
    rw [e2, List.all_append, text_plain l (fun y hy => h y (by simp [hy]))]
    unfold bodyL headL
    simp only [List.all_append]
    rw [code_plain f.f2 (h f (by simp)).i, (item_list f.f0).1, (digs_two f.f1).plain]
    decide
end Go.Proofs.Ytkgjbdbhpohkiaa.LiText
end
section
/- Reading what was written: the reader at each place of the text's words. -/
namespace Go.Proofs.Ytkgjbdbhpohkiaa.LiText
open Go.RowKit Go.Proofs.YtkgjbdbhpohkiaaW.PrintWords Go.Proofs.YtkgjbdbhpohkiaaW.PrintLast Go.Proofs.YtkgjbdbhpohkiaaW.PrintMore Go.Proofs.Ytkgjbdbhpohkiaa.Str Go.Proofs.Ytkgjbdbhpohkiaa.Dig Go.Proofs.Ytkgjbdbhpohkiaa.DigLaw Go.Proofs.Ytkgjbdbhpohkiaa.CodeLaw Go.Proofs.Ytkgjbdbhpohkiaa.PLi Go.Proofs.Ytkgjbdbhpohkiaa.LiRead
set_option linter.unusedSimpArgs false
set_option linter.unusedVariables false

theorem digs_back (v : Int) (h0 : -9223372036854775808 ≤ v) (h1 : v ≤ 9223372036854775807) : parseL (digs v) = (v, 0) := parse_digs v h0 h1
/-- The words from a place on. -/
def At (tl : List Tok) (i : Nat) (ws : List (List UInt8)) : Prop := tl.length ≤ 100000 ∧ i ≤ tl.length ∧ (Texts tl).drop i = ws
section
variable {tl : List Tok} {s2 : Int}
theorem at_lt {i : Nat} {w : List UInt8} {ws : List (List UInt8)} (h : At tl i (w :: ws)) : i < tl.length ∧ pkB tl (i : Int) 0 = mk w := by
  have hlt : i < (Texts tl).length := by
    have := congrArg List.length h.2.2
    rw [List.length_drop, List.length_cons] at this
    omega
  have hlt2 : i < tl.length := by unfold Texts at hlt; rwa [List.length_map] at hlt
  refine ⟨hlt2, ?_⟩
  have e := h.2.2
  rw [List.drop_eq_getElem_cons hlt] at e
  have e1 := (List.cons.inj e).1
  unfold pkB
  rw [if_pos ⟨rfl, by omega⟩]
  have e2 : rd_T84 tl (i : Int) = tl[i] := by unfold rd_T84; rw [Int.toNat_natCast, List.getD_eq_getElem?_getD, List.getElem?_eq_getElem hlt2]; rfl
  rw [e2, mk_data tl[i].f0]
  congr 1
  have e3 : (Texts tl)[i] = tl[i].f0.data.toList := List.getElem_map _
  rw [← e1, e3]
theorem at_next {i : Nat} {w : List UInt8} {ws : List (List UInt8)} (h : At tl i (w :: ws)) : At tl (i + 1) ws :=
  ⟨h.1, (at_lt h).1, by rw [← List.drop_drop, h.2.2]; rfl⟩
theorem at_app {i : Nat} {us ws : List (List UInt8)} (h : At tl i (us ++ ws)) : At tl (i + us.length) ws := by
  induction us generalizing i with
  | nil => exact h
  | cons u us ih =>
    have := ih (at_next h)
    rw [List.length_cons]
    rwa [show i + (us.length + 1) = i + 1 + us.length by omega]
theorem at_w {i : Nat} {w : List UInt8} {ws : List (List UInt8)} (h : At tl i (w :: ws)) : wrap64 ((i : Int) + 1) = ((i + 1 : Nat) : Int) := by
  have := h.1
  have := h.2.1
  rw [w64 (by omega) (by omega)]
  omega
theorem want_ok {i : Nat} {w : List UInt8} {ws : List (List UInt8)} (h : At tl i (w :: ws)) : listing_reader_want.f tl (i : Int) s2 0 0 (mk w) = some (((i + 1 : Nat) : Int), s2, 0, 0) := by
  unfold listing_reader_want.f
  rw [peek_some tl _ s2 0 0 (by omega), (at_lt h).2]
  show (if (mk w).toList = (mk w).toList then _ else _) = _
  rw [if_pos rfl, at_w h]
theorem digs_ne (v : Int) : 1 ≤ (digs v).length := by
  have := (digs_two v).1
  cases hd : digs v with
  | nil => exact absurd hd this
  | cons c l => simp
theorem index_ok {i : Nat} {b : UInt8} {v : Int} {ws : List (List UInt8)} (most c : Int) (h0 : 0 ≤ v) (h1 : v ≤ most) (hm : most ≤ 65535) (h : At tl i ((b :: digs v) :: ws)) : Ev (fun k => listing_reader_index.f k tl (i : Int) s2 0 0 (b.toNat : Int) most c) (v, ((i + 1 : Nat) : Int), s2, 0, 0) := by
  have hn := digs_ne v
  have hlen := digs_len v (by omega) (by omega)
  have hpk := peek_some tl (i : Int) s2 0 0 (by omega)
  rw [(at_lt h).2] at hpk
  have hw := at_w h
  have hi := index_ev (digs v) (by omega) most
  rw [digs_back v (by omega) (by omega), if_pos rfl, if_neg (by show ¬ (v < 0 ∨ v > most); omega)] at hi
  have ex : (mk (b :: digs v)).extract 1 (mk (b :: digs v)).size = mk (digs v) := mk_from (b :: digs v) 1
  have hsz : (mk (b :: digs v)).size = (digs v).length + 1 := by rw [mk_size, List.length_cons]
  unfold listing_reader_index.f
  refine ev_some hpk (ev_neg (by rw [hsz]; omega) (ev_pos (by rw [hsz]; omega) ?_))
  rw [bt_head]
  refine Ev.step (fun k => by simp only [listing_reader_index.j0]; rfl) (ev_neg (by simp) (ev_pos (by rw [hsz]; omega) ?_))
  rw [ex]
  refine ev_bind'' hi (ev_pos (c := (0 : Int) = 0) rfl ?_)
  rw [hw]
  exact Ev.now _
theorem slot_ok {i : Nat} {v : Int} {ws : List (List UInt8)} (h0 : -1 ≤ v) (h1 : v ≤ 4095) (h : At tl i (slotW v :: ws)) : Ev (fun k => listing_reader_slot.f k tl (i : Int) s2 0 0) (v, ((i + 1 : Nat) : Int), s2, 0, 0) := by
  have hpk := peek_some tl (i : Int) s2 0 0 (by omega)
  rw [(at_lt h).2] at hpk
  have hw := at_w h
  unfold listing_reader_slot.f
  by_cases hv : v < 0
  · have e : slotW v = [95] := by unfold slotW; rw [if_pos hv]
    rw [e] at hpk
    refine ev_some hpk (ev_pos (mk_toList [95]) ?_)
    rw [hw, show v = -1 by omega]
    exact Ev.now _
  · have e : slotW v = 115 :: digs v := by unfold slotW; rw [if_neg hv]
    rw [e] at hpk h
    have hn := digs_ne v
    refine ev_some hpk (ev_neg (by rw [mk_toList]; intro e2; exact absurd (List.cons.inj e2).1 (by decide)) ?_)
    exact ev_bind'' (index_ok (b := 115) 4095 8 (by omega) h1 (by omega) h) (Ev.now _)
theorem number_ok {i : Nat} {v : Int} {ws : List (List UInt8)} (h0 : -9223372036854775808 ≤ v) (h1 : v ≤ 9223372036854775807) (h : At tl i (digs v :: ws)) : Ev (fun k => listing_reader_number.f k tl (i : Int) s2 0 0) (v, ((i + 1 : Nat) : Int), s2, 0, 0) := by
  have hlen := digs_len v h0 h1
  have hpk := peek_some tl (i : Int) s2 0 0 (by omega)
  rw [(at_lt h).2] at hpk
  have hw := at_w h
  have hi := parse_ev (digs v) (by omega)
  rw [digs_back v h0 h1] at hi
  unfold listing_reader_number.f
  refine ev_some hpk (ev_bind'' hi (ev_pos (c := (0 : Int) = 0) rfl ?_))
  rw [hw]
  exact Ev.now _
theorem two_ne {w : List UInt8} (h : Two w) {c : UInt8} (hc : kindR c.toNat = 1) : w ≠ [c] := by
  intro e
  have := h.2 c (by rw [e]; simp)
  omega
theorem list_l0_ok : ∀ (l acc : List Int) (i : Nat) (ws : List (List UInt8)), (∀ v ∈ l, 0 ≤ v ∧ v ≤ 4095) → acc.length + l.length ≤ 8 → At tl i (l.map slotW ++ [41] :: ws) →
    Ev (fun k => listing_reader_list.l0 k acc tl (i : Int) s2 0 0) (acc ++ l, ((i + l.length + 1 : Nat) : Int), s2, 0, 0) := by
  intro l
  induction l with
  | nil =>
    intro acc i ws _ _ h
    have hpk := peek_some tl (i : Int) s2 0 0 (by omega)
    rw [(at_lt h).2] at hpk
    have e : ((mk [41]).toList != ([41] : List UInt8)) = false := by rw [mk_toList]; decide
    refine Ev.step (fun k => by simp only [listing_reader_list.l0]; rfl) (ev_pos (c := (0 : Int) = 0) rfl (ev_some hpk ?_))
    simp only [e]
    refine Ev.step (fun k => by simp only [listing_reader_list.j1]; rfl) (ev_neg (by simp) (ev_some (want_ok h) ?_))
    rw [List.append_nil]
    exact Ev.now _
  | cons v l ih =>
    intro acc i ws hv hl h
    have hpk := peek_some tl (i : Int) s2 0 0 (by omega)
    rw [(at_lt h).2] at hpk
    have e : ((mk (slotW v)).toList != ([41] : List UInt8)) = true := by rw [mk_toList]; exact bne_iff_ne.mpr (two_ne (slotW_two v) (by decide))
    have h1 := hv v (by simp)
    rw [List.length_cons] at hl
    have hr := ih (acc ++ [v]) (i + 1) ws (fun u hu => hv u (by simp [hu])) (by rw [List.length_append, List.length_singleton]; omega) (at_next h)
    refine Ev.step (fun k => by simp only [listing_reader_list.l0]; rfl) (ev_pos (c := (0 : Int) = 0) rfl (ev_some hpk ?_))
    simp only [e]
    refine Ev.step (fun k => by simp only [listing_reader_list.j1]; rfl) (ev_pos (c := true = true) rfl (ev_neg (by omega) (ev_bind'' (slot_ok (by omega) h1.2 h) (ev_pos (c := acc.length < 17592186044416) (by omega) ?_))))
    rw [List.append_assoc] at hr
    rw [List.length_cons, show i + (l.length + 1) + 1 = i + 1 + l.length + 1 by omega]
    exact hr
theorem list_ok {l : List Int} {i : Nat} {ws : List (List UInt8)} (hv : ∀ v ∈ l, 0 ≤ v ∧ v ≤ 4095) (hl : l.length ≤ 8) (h : At tl i (listWs l ++ ws)) : Ev (fun k => listing_reader_list.f k tl (i : Int) s2 0 0) (l, ((i + (listWs l).length : Nat) : Int), s2, 0, 0) := by
  have h' : At tl i ([40] :: (l.map slotW ++ [41] :: ws)) := by
    unfold listWs at h
    simpa using h
  unfold listing_reader_list.f
  have hr := list_l0_ok (tl := tl) (s2 := s2) l [] (i + 1) ws hv (by simpa using hl) (at_next h')
  have e : i + (listWs l).length = i + 1 + l.length + 1 := by unfold listWs; simp; omega
  rw [e]
  exact ev_some (want_ok h') hr
theorem find_fin : ∀ n : Fin 31, piecesL ((n : Nat) : Int) ≠ [] → listing_find.f 60 (wordT n) = some ((n : Nat) : Int) := by decide +kernel
theorem find_ok {n : Nat} (hn : n ≤ 30) (hp : piecesL (n : Int) ≠ []) : Ev (fun k => listing_find.f k (wordT n)) (n : Int) := Ev.of (fun k => listing_find.mono _ k) (k := 60) (find_fin ⟨n, by omega⟩ hp)
theorem steps_ok (x : S37) : ∀ (cs : List UInt8) (y : S37) (i : Nat) (ws : List (List UInt8)), (∀ c ∈ cs, okC x c) → At tl i (cs.flatMap (letterWs x) ++ ws) →
    Ev (fun k => riSteps k tl cs (y, (i : Int), s2, 0, 0)) (cs.foldl (setC x) y, ((i + (cs.flatMap (letterWs x)).length : Nat) : Int), s2, 0, 0) := by
  intro cs
  induction cs with
  | nil => intro y i ws _ _; exact Ev.now _
  | cons c cs ih =>
    intro y i ws hc h
    have hc1 := hc c (by simp)
    have hc2 : ∀ d ∈ cs, okC x d := fun d hd => hc d (by simp [hd])
    rw [List.flatMap_cons, List.append_assoc] at h
    rw [List.flatMap_cons, List.length_append, List.foldl_cons, ← Nat.add_assoc]
    refine ev_bind'' (a := (setC x y c, ((i + (letterWs x c).length : Nat) : Int), s2, 0, 0)) ?_ (ih (setC x y c) _ ws hc2 (at_app h))
    have hone : c ≠ 108 → letterWs x c = [letterL x c] := fun e => by unfold letterWs; rw [if_neg e]
    unfold okC at hc1
    by_cases h0 : c = 100
    · subst h0
      rw [hone (by decide)] at h ⊢
      show Ev (fun k => (listing_reader_slot.f k tl (i : Int) s2 0 0).bind fun y0 => some ((⟨y.f0, y0.1, y.f2, y.f3, y.f4, y.f5, ⟨y.f6.f0, y.f6.f1⟩⟩ : S37), y0.2.1, y0.2.2.1, y0.2.2.2.1, y0.2.2.2.2)) ((⟨y.f0, x.f1, y.f2, y.f3, y.f4, y.f5, ⟨y.f6.f0, y.f6.f1⟩⟩ : S37), ((i + 1 : Nat) : Int), s2, 0, 0)
      exact ev_bind'' (slot_ok (v := x.f1) hc1.1 hc1.2 h) (Ev.now _)
    by_cases h1 : c = 97
    · subst h1
      rw [hone (by decide)] at h ⊢
      show Ev (fun k => (listing_reader_slot.f k tl (i : Int) s2 0 0).bind fun y0 => some ((⟨y.f0, y.f1, y0.1, y.f3, y.f4, y.f5, ⟨y.f6.f0, y.f6.f1⟩⟩ : S37), y0.2.1, y0.2.2.1, y0.2.2.2.1, y0.2.2.2.2)) ((⟨y.f0, y.f1, x.f2, y.f3, y.f4, y.f5, ⟨y.f6.f0, y.f6.f1⟩⟩ : S37), ((i + 1 : Nat) : Int), s2, 0, 0)
      exact ev_bind'' (slot_ok (v := x.f2) hc1.1 hc1.2 h) (Ev.now _)
    by_cases h2 : c = 98
    · subst h2
      rw [hone (by decide)] at h ⊢
      show Ev (fun k => (listing_reader_slot.f k tl (i : Int) s2 0 0).bind fun y0 => some ((⟨y.f0, y.f1, y.f2, y0.1, y.f4, y.f5, ⟨y.f6.f0, y.f6.f1⟩⟩ : S37), y0.2.1, y0.2.2.1, y0.2.2.2.1, y0.2.2.2.2)) ((⟨y.f0, y.f1, y.f2, x.f3, y.f4, y.f5, ⟨y.f6.f0, y.f6.f1⟩⟩ : S37), ((i + 1 : Nat) : Int), s2, 0, 0)
      exact ev_bind'' (slot_ok (v := x.f3) hc1.1 hc1.2 h) (Ev.now _)
    by_cases h3 : c = 102
    · subst h3
      rw [hone (by decide)] at h ⊢
      show Ev (fun k => (listing_reader_index.f k tl (i : Int) s2 0 0 102 31 12).bind fun y0 => some ((⟨y.f0, y.f1, y0.1, y.f3, y.f4, y.f5, ⟨y.f6.f0, y.f6.f1⟩⟩ : S37), y0.2.1, y0.2.2.1, y0.2.2.2.1, y0.2.2.2.2)) ((⟨y.f0, y.f1, x.f2, y.f3, y.f4, y.f5, ⟨y.f6.f0, y.f6.f1⟩⟩ : S37), ((i + 1 : Nat) : Int), s2, 0, 0)
      exact ev_bind'' (index_ok (b := 102) (v := x.f2) 31 12 hc1.1 hc1.2 (by omega) h) (Ev.now _)
    by_cases h4 : c = 110
    · subst h4
      rw [hone (by decide)] at h ⊢
      show Ev (fun k => (listing_reader_number.f k tl (i : Int) s2 0 0).bind fun y0 => some ((⟨y.f0, y.f1, y.f2, y.f3, y0.1, y.f5, ⟨y.f6.f0, y.f6.f1⟩⟩ : S37), y0.2.1, y0.2.2.1, y0.2.2.2.1, y0.2.2.2.2)) ((⟨y.f0, y.f1, y.f2, y.f3, x.f4, y.f5, ⟨y.f6.f0, y.f6.f1⟩⟩ : S37), ((i + 1 : Nat) : Int), s2, 0, 0)
      exact ev_bind'' (number_ok (v := x.f4) hc1.1 hc1.2 h) (Ev.now _)
    by_cases h5 : c = 108
    · subst h5
      have e : letterWs x 108 = listWs x.f5 := rfl
      rw [e] at h ⊢
      show Ev (fun k => (listing_reader_list.f k tl (i : Int) s2 0 0).bind fun y0 => some ((⟨y.f0, y.f1, y.f2, y.f3, y.f4, y0.1, ⟨y.f6.f0, y.f6.f1⟩⟩ : S37), y0.2.1, y0.2.2.1, y0.2.2.2.1, y0.2.2.2.2)) ((⟨y.f0, y.f1, y.f2, y.f3, y.f4, x.f5, ⟨y.f6.f0, y.f6.f1⟩⟩ : S37), ((i + (listWs x.f5).length : Nat) : Int), s2, 0, 0)
      exact ev_bind'' (list_ok hc1.2 hc1.1 h) (Ev.now _)
    by_cases h6 : c = 111
    · subst h6
      rw [hone (by decide)] at h ⊢
      show Ev (fun k => (listing_reader_index.f k tl (i : Int) s2 0 0 64 65535 7).bind fun y0 => some ((⟨y.f0, y.f1, y.f2, y.f3, y.f4, y.f5, ⟨y0.1, y.f6.f1⟩⟩ : S37), y0.2.1, y0.2.2.1, y0.2.2.2.1, y0.2.2.2.2)) ((⟨y.f0, y.f1, y.f2, y.f3, y.f4, y.f5, ⟨x.f6.f0, y.f6.f1⟩⟩ : S37), ((i + 1 : Nat) : Int), s2, 0, 0)
      exact ev_bind'' (index_ok (b := 64) (v := x.f6.f0) 65535 7 hc1.1 hc1.2 (by omega) h) (Ev.now _)
    by_cases h7 : c = 116
    · subst h7
      rw [hone (by decide)] at h ⊢
      show Ev (fun k => (listing_reader_index.f k tl (i : Int) s2 0 0 64 65535 7).bind fun y0 => some ((⟨y.f0, y.f1, y.f2, y.f3, y.f4, y.f5, ⟨y.f6.f0, y0.1⟩⟩ : S37), y0.2.1, y0.2.2.1, y0.2.2.2.1, y0.2.2.2.2)) ((⟨y.f0, y.f1, y.f2, y.f3, y.f4, y.f5, ⟨y.f6.f0, x.f6.f1⟩⟩ : S37), ((i + 1 : Nat) : Int), s2, 0, 0)
      exact ev_bind'' (index_ok (b := 64) (v := x.f6.f1) 65535 7 hc1.1 hc1.2 (by omega) h) (Ev.now _)
    rw [if_neg h0, if_neg h1, if_neg h2, if_neg h3, if_neg h4, if_neg h5, if_neg h6, if_neg h7] at hc1
    exact hc1.elim
theorem inst_ok_read {x : S37} (hx : GoodI x) {i : Nat} {ws : List (List UInt8)} (h : At tl i (instWs x ++ ws)) : Ev (fun k => listing_reader_inst.f k tl (i : Int) s2 0 0) (riOut (x, ((i + (instWs x).length : Nat) : Int), s2, 0, 0)) := by
  have hi := inst_nat hx
  generalize hn : x.f0.toNat = n at hi
  unfold instWs at h ⊢
  rw [hn] at h ⊢
  obtain ⟨ho, -⟩ := parts_ok ⟨n, by have := hi.le; omega⟩
  have hpk := peek_some tl (i : Int) s2 0 0 (by omega)
  rw [(at_lt h).2, ← mk_data (wordT n)] at hpk
  have hw := at_w h
  have hp0 : ¬ (n : Int) = 0 := by
    intro e
    exact hi.ne (by rw [e]; rfl)
  have hst := steps_ok (tl := tl) (s2 := s2) x _ ⟨(n : Int), -1, -1, -1, 0, [], ⟨0, 0⟩⟩ (i + 1) ws hi.ok (at_next h)
  rw [hi.e] at hst
  unfold listing_reader_inst.f
  refine ev_some hpk (ev_bind'' (find_ok hi.le hi.ne) ?_)
  refine ev_some (show (if (n : Int) = 0 then _ else some ((i : Int), s2, (0 : Int), (0 : Int))) = some ((i : Int), s2, 0, 0) by rw [if_neg hp0]) (ev_bind'' (parts_ev n hi.le) (ev_pos ho ?_))
  rw [hw]
  rw [List.length_cons, show i + (((partsT n).data.toList.flatMap (letterWs x)).length + 1) = i + 1 + ((partsT n).data.toList.flatMap (letterWs x)).length by omega] 
  exact ev_bind'' hst (Ev.now _)
theorem loop_ok : ∀ (xs acc : List S37) (i : Nat) (ws : List (List UInt8)), (∀ x ∈ xs, GoodI x) → acc.length + xs.length ≤ 1000000 → At tl i (xs.flatMap instWs ++ [125] :: ws) →
    Ev (fun k => rbLoop k tl acc (i : Int) s2 0 0) (acc ++ xs, ((i + (xs.flatMap instWs).length : Nat) : Int), s2, 0, 0) := by
  intro xs
  induction xs with
  | nil =>
    intro acc i ws _ _ h
    have hpk := peek_some tl (i : Int) s2 0 0 (by omega)
    rw [(at_lt h).2] at hpk
    refine Ev.step (fun k => by simp only [rbLoop]; rfl) (ev_pos (c := (0 : Int) = 0) rfl (ev_some hpk (ev_pos (mk_toList [125]) ?_)))
    rw [List.append_nil]
    exact Ev.now _
  | cons x xs ih =>
    intro acc i ws hx hl h
    rw [List.length_cons] at hl
    rw [List.flatMap_cons, List.append_assoc] at h
    have hx1 := hx x (by simp)
    have hpk := peek_some tl (i : Int) s2 0 0 (by omega)
    rw [(at_lt (w := (wordT x.f0.toNat).data.toList) h).2] at hpk
    have hr := ih (acc ++ [x]) _ ws (fun y hy => hx y (by simp [hy])) (by rw [List.length_append, List.length_singleton]; omega) (at_app h)
    refine Ev.step (fun k => by simp only [rbLoop]; rfl) (ev_pos (c := (0 : Int) = 0) rfl (ev_some hpk (ev_neg (c := (mk (wordT x.f0.toNat).data.toList).toList = ([125] : List UInt8)) (by rw [mk_toList]; exact two_ne (word_two (inst_nat hx1)) (by decide)) (ev_bind'' (inst_ok_read hx1 h) (ev_pos (c := acc.length < 1000000000000) (by omega) ?_)))))
    rw [List.append_assoc] at hr
    rw [List.flatMap_cons, List.length_append, ← Nat.add_assoc]
    exact hr
theorem body_ok {f : S33} (hf : GoodB f) {i : Nat} {ws : List (List UInt8)} (h : At tl i (bodyWs f ++ ws)) : Ev (fun k => listing_reader_body.f k tl (i : Int) s2 0 0) (f.f0, f.f1, f.f2, ((i + (bodyWs f).length : Nat) : Int), s2, 0, 0) := by
  unfold bodyWs at h
  rw [List.cons_append] at h
  have h1 := at_next h
  rw [List.append_assoc] at h1
  have h2 := at_app h1
  rw [List.cons_append] at h2
  have h3 := at_next h2
  rw [List.cons_append] at h3
  have h4 := at_next h3
  rw [List.append_assoc] at h4
  have h5 := at_app h4
  have hlist := list_ok (s2 := s2) hf.p.2 hf.p.1 h1
  have hpk := peek_some tl ((i + 1 + (listWs f.f0).length : Nat) : Int) s2 0 0 (by omega)
  rw [(at_lt h2).2] at hpk
  have hlen := digs_len f.f1 (by have := hf.s; omega) (by have := hf.s; omega)
  have hi := index_ev (digs f.f1) (by omega) 4096
  rw [digs_back f.f1 (by have := hf.s; omega) (by have := hf.s; omega), if_pos rfl, if_neg (by show ¬ (f.f1 < 0 ∨ f.f1 > 4096); have := hf.s; omega)] at hi
  have hloop := loop_ok (s2 := s2) f.f2 [] _ ws hf.i (by have := hf.n; simp; omega) h4
  unfold listing_reader_body.f
  refine ev_some (want_ok h) (ev_bind'' hlist (ev_some hpk (ev_bind'' hi ?_)))
  refine ev_some (show (if (0 : Int) = 0 then some (((i + 1 + (listWs f.f0).length : Nat) : Int), s2, (0 : Int), (0 : Int)) else _) = some (((i + 1 + (listWs f.f0).length : Nat) : Int), s2, 0, 0) from rfl) ?_
  rw [at_w h2]
  refine ev_some (want_ok h3) (ev_bind'' hloop (ev_some (want_ok h5) ?_))
  have e : i + (bodyWs f).length = i + 1 + (listWs f.f0).length + 1 + 1 + (f.f2.flatMap instWs).length + 1 := by unfold bodyWs; simp; omega
  rw [e]
  exact Ev.now _
theorem bodies_ok : ∀ (fs acc : List S33) (i : Nat), (∀ f ∈ fs, GoodB f) → acc.length + fs.length ≤ 1000000 → At tl i (fs.flatMap bodyWs) →
    Ev (fun k => rdLoop k tl acc (i : Int) s2 0 0) (acc ++ fs, ((i + (fs.flatMap bodyWs).length : Nat) : Int), s2, 0, 0) := by
  intro fs
  induction fs with
  | nil =>
    intro acc i _ _ h
    have hn : ¬ ((0 : Int) = 0 ∧ (i : Int) < (tl.length : Int)) := by
      intro e
      have := congrArg List.length h.2.2
      rw [List.length_drop] at this
      unfold Texts at this
      rw [List.length_map, List.flatMap_nil, List.length_nil] at this
      omega
    refine Ev.step (fun k => by simp only [rdLoop]; rfl) (ev_neg hn ?_)
    rw [List.append_nil]
    exact Ev.now _
  | cons f fs ih =>
    intro acc i hf hl h
    rw [List.length_cons] at hl
    rw [List.flatMap_cons] at h
    have hf1 := hf f (by simp)
    have hlt := (at_lt (w := [98, 111, 100, 121]) h).1
    have hr := ih (acc ++ [f]) _ (fun y hy => hf y (by simp [hy])) (by rw [List.length_append, List.length_singleton]; omega) (at_app h)
    refine Ev.step (fun k => by simp only [rdLoop]; rfl) (ev_pos (c := (0 : Int) = 0 ∧ (i : Int) < (tl.length : Int)) ⟨rfl, by omega⟩ (ev_bind'' (body_ok hf1 h) (ev_pos (c := acc.length < 1000000000000) (by omega) ?_)))
    rw [List.append_assoc] at hr
    rw [List.flatMap_cons, List.length_append, ← Nat.add_assoc]
    exact hr
end
theorem good_fit {l : List S33} (h : ∀ f ∈ l, GoodB f) (hb : ∀ f ∈ l, ∀ x ∈ f.f2, x.f5.length ≤ 1000000) : ∀ f ∈ l, Fit f := fun f hf =>
  ⟨by have := (h f hf).p.1; omega, by have := (h f hf).n; omega, fun x hx => by have := hb f hf x hx; omega⟩
/-- THERE AND BACK. -/
theorem read_text {l : List S33} (hl : l.length ≤ 32) (h : ∀ f ∈ l, GoodB f) (hb : ∀ f ∈ l, ∀ x ∈ f.f2, x.f5.length ≤ 1000000) (ht : (textL l).length ≤ 65536) (hc : (chk l).1 = 0) : Ev (fun k => listing_Read.f k (mk (textL l))) (l, 0, 0) := by
  obtain ⟨tl, h1, h2, h3⟩ := splitL_words (textL l) (by omega) (text_plain l h)
  rw [text_words l h] at h2
  have hlen : tl.length ≤ 100000 := by
    rcases split_stand (mk (textL l)) (textL l) 0 (-1) false [] 0 tl 0 0 rfl (Nat.zero_le _) (Int.le_refl _) (.inl ⟨rfl, by omega⟩) (by
      unfold splitL at h1
      rw [if_neg (by rw [mk_size]; omega)] at h1
      exact h1) with ⟨-, hs⟩ | ⟨h, -⟩
    · have := stand_len hs
      rw [mk_size] at this
      omega
    · cases h
  have hat : At tl 0 (l.flatMap bodyWs) := ⟨hlen, Nat.zero_le _, by rw [List.drop_zero, h2]⟩
  have hr := bodies_ok (s2 := ((mk (textL l)).size : Int)) l [] 0 h (by simp; omega) hat
  unfold listing_Read.f
  refine ev_some (show token_Split.f (mk (textL l)) = some (tl, 0, 0) by unfold token_Split.f; rw [h1]) (ev_pos (c := (0 : Int) = 0) rfl (ev_bind'' hr (ev_pos (c := (0 : Int) = 0) rfl (ev_bind'' (prog_chk l (good_fit h hb)) (ev_pos hc (Ev.now _))))))
end Go.Proofs.Ytkgjbdbhpohkiaa.LiText
end
section
/- Bodies are the same as themselves, as the reference tells it. -/
namespace Go.Proofs.Ytkgjbdbhpohkiaa.CodeLaw
open Go.RowKit Go.Proofs.Ytkgjbdbhpohkiaa.PLi Go.Proofs.YtkgjbdbhpohkiaaW.PrintWords Go.Proofs.YtkgjbdbhpohkiaaW.PrintLast Go.Proofs.YtkgjbdbhpohkiaaW.PrintMore Go.Proofs.Ytkgjbdbhpohkiaa.Str
set_option linter.unusedSimpArgs false
set_option linter.unusedVariables false
theorem ints_l0 (l : List Int) (hl : l.length ≤ 9223372036854775806) : ∀ (d i : Nat), l.length - i = d → Ev (fun k => turntableref05_Ints.l0 k l l (i : Int)) true := by
  intro d
  induction d with
  | zero =>
    intro i hd
    exact Ev.step (fun k => by simp only [turntableref05_Ints.l0]; rfl) (ev_neg (by omega) (Ev.now _))
  | succ d ih =>
    intro i hd
    refine Ev.step (fun k => by simp only [turntableref05_Ints.l0]; rfl) (ev_pos (by omega) (ev_pos (by omega) (ev_pos (by omega) (ev_pos (c := rd l (i : Int) = rd l (i : Int)) rfl ?_))))
    have hw : wrap64 ((i : Int) + 1) = ((i + 1 : Nat) : Int) := by rw [w64 (by omega) (by omega)]; omega
    rw [hw]
    exact ih (i + 1) (by omega)
theorem ints_any (l : List Int) (hl : l.length ≤ 9223372036854775806) : Ev (fun k => turntableref05_Ints.f k l l) true := by
  unfold turntableref05_Ints.f
  exact ev_pos rfl (ints_l0 l hl _ 0 rfl)
theorem same_l1 (l : List S33) (i : Nat) (hi : i < l.length) (hf : Fit l[i]) (hnext : Ev (fun k => turntableref32_Same.l0 k l l (wrap64 ((i : Int) + 1))) true) :
    ∀ (d j : Nat), l[i].f2.length - j = d → Ev (fun k => turntableref32_Same.l1 k l l (i : Int) (j : Int)) true := by
  intro d
  induction d with
  | zero =>
    intro j hd
    refine Ev.step (fun k => by simp only [turntableref32_Same.l1]; rfl) (ev_pos (by omega) (ev_pos (by omega) (ev_neg (by rw [rd47_at _ i hi]; omega) hnext)))
  | succ d ih =>
    intro j hd
    have hj : j < l[i].f2.length := by omega
    have hc := hf.c
    refine Ev.step (fun k => by simp only [turntableref32_Same.l1]; rfl) (ev_pos (by omega) (ev_pos (by omega) ?_))
    rw [rd47_at _ i hi]
    refine ev_pos (by omega) (ev_pos (by omega) (ev_pos (by omega) (ev_pos (by omega) ?_)))
    rw [rd51_at _ j hj]
    have hs : Ev (fun k => turntableref32_SameInst.f k l[i].f2[j].f0 l[i].f2[j].f1 l[i].f2[j].f2 l[i].f2[j].f3 l[i].f2[j].f4 l[i].f2[j].f5 l[i].f2[j].f6.f0 l[i].f2[j].f6.f1 l[i].f2[j].f0 l[i].f2[j].f1 l[i].f2[j].f2 l[i].f2[j].f3 l[i].f2[j].f4 l[i].f2[j].f5 l[i].f2[j].f6.f0 l[i].f2[j].f6.f1) true := by
      unfold turntableref32_SameInst.f
      exact ev_pos rfl (ev_pos rfl (ev_pos rfl (ev_pos rfl (ev_pos rfl (ev_pos rfl (ev_pos rfl (ev_bind' (ints_any _ (hf.a _ (List.getElem_mem hj))) (Ev.now _))))))))
    refine ev_bind' hs (ev_pos rfl ?_)
    have hw : wrap64 ((j : Int) + 1) = ((j + 1 : Nat) : Int) := by rw [w64 (by omega) (by omega)]; omega
    rw [hw]
    exact ih (j + 1) (by omega)
theorem same_l0 (l : List S33) (hl : l.length ≤ 9223372036854775806) (hf : ∀ f ∈ l, Fit f) : ∀ (d i : Nat), l.length - i = d → Ev (fun k => turntableref32_Same.l0 k l l (i : Int)) true := by
  intro d
  induction d with
  | zero =>
    intro i hd
    exact Ev.step (fun k => by simp only [turntableref32_Same.l0]; rfl) (ev_neg (by omega) (Ev.now _))
  | succ d ih =>
    intro i hd
    have hi : i < l.length := by omega
    have hfi := hf _ (List.getElem_mem hi)
    refine Ev.step (fun k => by simp only [turntableref32_Same.l0]; rfl) (ev_pos (by omega) (ev_pos (by omega) (ev_pos (by omega) (ev_pos (c := (rd_T33 l (i : Int)).f1 = (rd_T33 l (i : Int)).f1) rfl ?_))))
    have hw : wrap64 ((i : Int) + 1) = ((i + 1 : Nat) : Int) := by rw [w64 (by omega) (by omega)]; omega
    refine ev_bind' (ints_any _ (by rw [rd47_at _ i hi]; exact hfi.p)) (ev_pos rfl (ev_pos trivial ?_))
    exact same_l1 l i hi hfi (by rw [hw]; exact ih (i + 1) (by omega)) _ 0 rfl
theorem same_any (l : List S33) (hl : l.length ≤ 9223372036854775806) (hf : ∀ f ∈ l, Fit f) : Ev (fun k => turntableref32_Same.f k l l) true := by
  unfold turntableref32_Same.f
  exact ev_pos rfl (same_l0 l hl hf _ 0 rfl)

end Go.Proofs.Ytkgjbdbhpohkiaa.CodeLaw
end
section
/- THERE AND BACK: bodies that may be are read from their text as what they were: the plain law behind ListingBack. -/
namespace Go.Proofs.Ytkgjbdbhpohkiaa.Pure
open Go.RowKit Go.Proofs.Ytkgjbdbhpohkiaa.PLi Go.Proofs.Ytkgjbdbhpohkiaa.ListingBackSaid Go.Proofs.YtkgjbdbhpohkiaaW.PrintWords Go.Proofs.YtkgjbdbhpohkiaaW.PrintLast Go.Proofs.Ytkgjbdbhpohkiaa.Str Go.Proofs.Ytkgjbdbhpohkiaa.CodeLaw Go.Proofs.Ytkgjbdbhpohkiaa.LiRead Go.Proofs.Ytkgjbdbhpohkiaa.LiText Go.Proofs.Ytkgjbdbhpohkiaa.DigLaw

theorem wt_mem : ∀ (xs : List S37) (x : S37), x ∈ xs → x.f5.length ≤ wtI xs
  | y :: ys, x, h => by
    have e : wtI (y :: ys) = (1 + y.f5.length) + wtI ys := rfl
    rcases List.mem_cons.mp h with rfl | h
    · omega
    · have := wt_mem ys x h
      omega
theorem wt_mem2 : ∀ (l : List S33) (f : S33), f ∈ l → wtI f.f2 ≤ (l.map wtB).sum
  | g :: l, f, h => by
    rw [List.map_cons, List.sum_cons]
    unfold wtB
    rcases List.mem_cons.mp h with rfl | h
    · omega
    · have := wt_mem2 l f h
      unfold wtB at this
      omega
theorem ListingBack : ListingBack.Good := by
  rintro l ⟨hl, hg⟩
  have hp : ∀ f ∈ l, f.f0.length ≤ 140737488351232 := fun f h => by have := (hg f h).1.1; omega
  have hb : ∀ f ∈ l, f.f2.length ≤ 140737488351232 := fun f h => by have := (hg f h).2.2.1; omega
  have ha : ∀ f ∈ l, ∀ x ∈ f.f2, x.f5.length ≤ 140737488351232 := fun f h x hx => by have := ((hg f h).2.2.2 x hx).2.2.2.2.2.1.1; omega
  have hf : ∀ f ∈ l, Fit f := fun f h => ⟨by have := hp f h; omega, by have := hb f h; omega, fun x hx => by have := ha f h x hx; omega⟩
  obtain ⟨b, hlight, hw⟩ := light_any l (by omega) hp hb ha
  refine Ev.rounds (g := fun k => turntablelaw37_ListingBack.f k l) ?_
  unfold turntablelaw37_ListingBack.f
  refine ev_bind'' hlight ?_
  cases b with
  | false => exact ev_pos rfl (Ev.now _)
  | true =>
    refine ev_neg (by simp) (ev_bind'' (ref_chk l hf) ?_)
    by_cases h0 : (chk l).1 = 0
    · have hwl := hw rfl
      obtain ⟨g1, g2⟩ := good_all (fun f h x hx => i64_bounds ((hg f h).2.2.2 x hx).2.2.2.2.1) h0
      have hx : ∀ f ∈ l, ∀ x ∈ f.f2, x.f5.length ≤ 1000000 := fun f h x hx => by
        have a1 := wt_mem f.f2 x hx
        have a2 := wt_mem2 l f h
        unfold wtL at hwl
        omega
      have ht := text_len l g2
      exact ev_pos h0 (ev_bind'' (listing_text g1 g2 hx (by omega)) (ev_bind'' (read_text g1 g2 hx (by omega) h0) (ev_pos (c := (0 : Int) = 0) rfl (ev_bind'' (same_any l (by omega) hf) (ev_pos rfl (Ev.now _))))))
    · exact ev_neg h0 (Ev.now _)
end Go.Proofs.Ytkgjbdbhpohkiaa.Pure
end
section
-- PRINTED by a turned copy of the kit's print (patch_print.py); not typed by hand. Lean checks it.
namespace Go.Proofs.Ytkgjbdbhpohkiaa.listingBack
open Go.ChangeShapes Go.WideShapes Go.ChangeAt Go.RowKit
open Go.ChangeMaps (open_string shut_string)
open Go.Proofs.Ytkgjbdbhpohkiaa.PLi Go.Proofs.Ytkgjbdbhpohkiaa.Open Go.Proofs.Ytkgjbdbhpohkiaa.ListingBackSaid
set_option linter.unusedVariables false
theorem own : ownKnob Try.prog.godebug = none := by kernel_rfl
theorem laidOut : laidOutB Try.prog = true := by kernel_rfl
set_option maxHeartbeats 4000000 in
set_option maxRecDepth 100000 in
theorem lifted (os : Os) (started : os.Started) (H : Type) (enc : TypeId × Value → H) :
    ReturnsInHanded {} Try.checked os 5 .any (Rows.listingBackSpec.pre6 enc Try.prog Try.f5 Rows.listingBackRow.domain false) (Rows.listingBackSpec.post enc Try.prog Try.f5 false true false false) := by
  refine returnsInHanded_of_change_sized (C := Try.checked) own started (by kernel_rfl) Try.func5
    (ChangeSpec.witness6 (enc := enc) (C := Try.checked) false ⟨#[], #[.slice none 0 0], []⟩ 8 (by kernel_rfl) (by kernel_rfl) (by kernel_rfl) (by kernel_rfl)) ?_
  intro W base args ds gs before hval0 hW hcnd hsz0 _
  have hsz : (DataW.weightsEach Try.prog (Try.f5.params.toList ++ Rows.listingBackSpec.plain.varTypes Try.prog) (ds ++ gs)).all (· ≤ reachBytes) = true := hsz0
  have hval : ∀ (j : Nat) t v, Try.f5.params[j]? = some t → args[j]? = some v → Value.okWide Try.prog W .any base t v := hval0
  have hW' := hW
  obtain ⟨p, q, hA0, hV, rfl, hfz, hnd⟩ := hW
  have hA : DataW.TrodAll enc Try.prog W 0 (fun _ => true) true Try.f5.params.toList args.toList ds p := hA0
  rw [Try.params5] at hA hval hsz
  obtain ⟨v0, vs0, d0, ds0, p0, q0, hargs, rfl, rfl, h0, r0⟩ := trodAll_cons hA
  obtain ⟨rfl, rfl, rfl⟩ := trodAll_nil r0
  obtain rfl : args = #[v0] := by cases args; simp_all
  obtain ⟨rfl, rfl⟩ := trodVars_none hV
  have k0 := h0
  have lt0 : ∀ x ∈ p0, x.block < W.heap.size := by obtain ⟨m, hm⟩ := k0; exact DataW.trod_lt m _ _ _ hm
  have wt0 : ∀ n ∈ d0.weights Try.prog 22, n ≤ reachBytes := fun n hn => by simpa using List.all_eq_true.1 hsz n (DataW.weights_mem_each (j := 0) (t := 22) rfl rfl n hn)
  obtain ⟨fuel0, hf0⟩ := h0
  obtain ⟨a0, K0, y0⟩ := (opens_slice (e' := 33) (B := 56) Try.underlying22 open33 (by kernel_rfl) (by kernel_rfl)) enc W fuel0 _ _ hf0 wt0
  obtain ⟨A0, len0, c0, rfl⟩ := okWide_slice Try.underlying22 (hval 0 22 v0 rfl rfl)
  obtain ⟨A0', c0', e0, l0, C0⟩ := K0
  simp only [Value.cells, List.cons.injEq, Value.slice.injEq, and_true] at e0
  obtain ⟨rfl, rfl, rfl⟩ := e0
  clear hA0 hval0 hsz0 hsz
  obtain ⟨k, hk⟩ := Pure.ListingBack a0 y0
  refine (turntablelaw37_ListingBack.calls k _ _ a0 true W C0 l0 hk).mono ?_
  rintro e W' ⟨rfl, hd_⟩
  have bel : Below W.heap.size W W' := hd_
  exact ⟨_, rfl, _, _, _, [], _, [], hW', trodAll_mk1 (shut_bool Try.underlying4 _), (trodAll_cons_mk (Below.trod laidOut (by kernel_rfl) (of_decide_eq_true (by kernel_rfl)) k0 bel lt0) trodAll_mk0), rfl, bel.frame _, fun h => by cases h⟩
theorem over : Rows.listingBackRow.holds Try.pinned (OpenSpec.ofChange Rows.listingBackSpec) :=
  OpenClaim.holds_of_wide 5 Try.f5 rfl rfl rfl rfl rfl rfl rfl ⟨rfl, rfl, rfl, rfl, rfl⟩ rfl rfl rfl rfl rfl (by kernel_rfl) Try.func5 (by kernel_rfl)
    (of_decide_eq_true (by kernel_rfl)) (by unfold Func.isWrapper; first | (rw [if_pos (by decide +kernel)]; kernel_rfl) | (rw [if_neg (by decide +kernel)]; exact ⟨rfl, rfl⟩))
    (fun os started H enc _ => lifted os started H enc)
theorem proved : Rows.ListingBackSaid := over
#print axioms proved
end Go.Proofs.Ytkgjbdbhpohkiaa.listingBack
namespace Go.Proofs.Ytkgjbdbhpohkiaa
/-- The row, under a short name, for the claim. -/
theorem listingBack_holds : Rows.ListingBackSaid := listingBack.proved
end Go.Proofs.Ytkgjbdbhpohkiaa
end
