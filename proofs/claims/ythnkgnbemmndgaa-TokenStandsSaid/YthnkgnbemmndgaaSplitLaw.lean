/- What the words of a text are: each stands where it says; and what words put together are split as. Plain laws; no program here. -/
import Derived.Test.YthnkgnbemmndgaaSplitPure
namespace Go.Proofs.Ythnkgnbemmndgaa.PTk
open Go.RowKit Go.Proofs.YthnkgnbemmndgaaW.PrintWords Go.Proofs.YthnkgnbemmndgaaW.PrintLast Go.Proofs.YthnkgnbemmndgaaW.PrintMore Go.Proofs.Ythnkgnbemmndgaa.Str
set_option linter.unusedVariables false
set_option linter.unusedSimpArgs false

/-- Words that stand in s, one behind the other, from a on, all of them ending at b at the latest. -/
def Stand (s : ByteArray) : Int → List Tok → Int → Prop
  | a, [], b => a ≤ b
  | a, t :: l, b => a ≤ t.f1 ∧ 0 < t.f0.size ∧ t.f1 + t.f0.size ≤ s.size ∧ s.extract t.f1.toNat (t.f1 + t.f0.size).toNat = t.f0 ∧ Stand s (t.f1 + t.f0.size) l b

theorem stand_snoc {s : ByteArray} {t : Tok} {b c : Int} : ∀ {l : List Tok} {a : Int}, Stand s a l b → b ≤ t.f1 → 0 < t.f0.size → t.f1 + t.f0.size ≤ s.size → s.extract t.f1.toNat (t.f1 + t.f0.size).toNat = t.f0 → t.f1 + t.f0.size ≤ c → Stand s a (l ++ [t]) c := by
  intro l
  induction l with
  | nil => intro a h h1 h2 h3 h4 h5; exact ⟨Int.le_trans h h1, h2, h3, h4, h5⟩
  | cons x l ih => intro a h h1 h2 h3 h4 h5; exact ⟨h.1, h.2.1, h.2.2.1, h.2.2.2.1, ih h.2.2.2.2 h1 h2 h3 h4 h5⟩

theorem stand_le {s : ByteArray} {b c : Int} (hbc : b ≤ c) : ∀ {l : List Tok} {a : Int}, Stand s a l b → Stand s a l c := by
  intro l
  induction l with
  | nil => intro a h; exact Int.le_trans h hbc
  | cons x l ih => intro a h; exact ⟨h.1, h.2.1, h.2.2.1, h.2.2.2.1, ih h.2.2.2.2⟩

theorem ext_size (s : ByteArray) (a b : Nat) (h : a ≤ b) (hb : b ≤ s.size) : (s.extract a b).size = b - a := by
  rw [ByteArray.size_extract]; omega

/-- Behind the end of an open word. -/
theorem stand_close {s : ByteArray} {fr : Int} {i : Nat} {out : List Tok} {e : Int} (h : Stand s 0 out e) (hi : i ≤ s.size) (hf : fr = -1 ∧ e ≤ i ∨ e ≤ fr ∧ 0 ≤ fr ∧ fr < i) : Stand s 0 (closeW s fr i out) i := by
  unfold closeW
  rcases hf with ⟨h1, h2⟩ | ⟨h1, h2, h3⟩
  · rw [if_pos (by omega)]; exact stand_le h2 h
  · rw [if_neg (by omega)]
    have hs : (s.extract fr.toNat i).size = i - fr.toNat := ext_size s _ _ (by omega) hi
    have hs2 : ((s.extract fr.toNat i).size : Int) = i - fr := by rw [hs]; omega
    refine stand_snoc h h1 (by show 0 < (s.extract fr.toNat i).size; omega) (by show fr + ((s.extract fr.toNat i).size : Int) ≤ _; omega) ?_ (by show fr + ((s.extract fr.toNat i).size : Int) ≤ _; omega)
    show s.extract fr.toNat (fr + ((s.extract fr.toNat i).size : Int)).toNat = s.extract fr.toNat i
    congr 1
    omega

theorem ext_one (s : ByteArray) (i : Nat) (c : UInt8) (l : List UInt8) (h : s.data.toList.drop i = c :: l) : s.extract i (i + 1) = mk [c] := by
  have e : s = mk s.data.toList := mk_data s
  have h2 : (s.data.toList.drop i).take 1 = [c] := by rw [h]; rfl
  rw [e, mk_extract]
  congr 1
  have : (List.take (i + 1) s.data.toList).drop i = List.take 1 (s.data.toList.drop i) := by
    rw [List.drop_take]; congr 1; omega
  rw [this, h2]

theorem split_stand (s : ByteArray) : ∀ (l : List UInt8) (i : Nat) (fr : Int) (noted : Bool) (out : List Tok) (e : Int) (r1 : List Tok) (r2 r3 : Int), s.data.toList.drop i = l → i ≤ s.size → Stand s 0 out e → (fr = -1 ∧ e ≤ i ∨ e ≤ fr ∧ 0 ≤ fr ∧ fr < i) →
    splitGo s l i fr noted out = (r1, r2, r3) → (r2 = 0 ∧ Stand s 0 r1 s.size) ∨ (r2 = 1 ∧ r1 = [] ∧ 0 ≤ r3 ∧ r3 < s.size) := by
  intro l
  induction l with
  | nil =>
    intro i fr noted out e r1 r2 r3 hd hi hs hf h
    rw [splitGo] at h
    obtain ⟨rfl, h2⟩ := Prod.mk.inj h
    obtain ⟨rfl, rfl⟩ := Prod.mk.inj h2
    exact .inl ⟨rfl, stand_le (by omega) (stand_close hs hi hf)⟩
  | cons c l ih =>
    intro i fr noted out e r1 r2 r3 hd hi hs hf h
    have hlt : i < s.size := by
      have h9 := congrArg List.length hd
      rw [List.length_drop, List.length_cons] at h9
      have : s.size = s.data.toList.length := rfl
      omega
    have hd2 : s.data.toList.drop (i + 1) = l := by
      rw [← List.drop_drop, hd]; rfl
    have hc := stand_close hs hi hf
    rw [splitGo] at h
    by_cases hn : noted = true
    · rw [if_pos hn] at h
      exact ih (i + 1) fr _ out e r1 r2 r3 hd2 hlt hs (by omega) h
    · rw [if_neg hn] at h
      by_cases h0 : kindR c.toNat = 0
      · rw [if_pos h0] at h
        exact ih (i + 1) (-1) _ _ i r1 r2 r3 hd2 hlt hc (.inl ⟨rfl, by omega⟩) h
      · rw [if_neg h0] at h
        by_cases h1 : kindR c.toNat = 1
        · rw [if_pos h1] at h
          refine ih (i + 1) (-1) _ _ ((i + 1 : Nat) : Int) r1 r2 r3 hd2 hlt (stand_snoc hc (Int.le_refl _) (by show 0 < (mk [c]).size; rw [mk_size]; exact Nat.one_pos) ?_ ?_ ?_) (.inl ⟨rfl, by omega⟩) h
          · show (i : Int) + ((mk [c]).size : Int) ≤ _; rw [mk_size, List.length_singleton]; omega
          · show s.extract i ((i : Int) + ((mk [c]).size : Int)).toNat = mk [c]
            rw [mk_size, List.length_singleton]
            exact ext_one s i c l hd
          · show (i : Int) + ((mk [c]).size : Int) ≤ _; rw [mk_size, List.length_singleton]; omega
        · rw [if_neg h1] at h
          by_cases h2 : kindR c.toNat = 2
          · rw [if_pos h2] at h
            by_cases hfr : fr < 0
            · rw [if_pos hfr] at h
              exact ih (i + 1) i _ _ e r1 r2 r3 hd2 hlt hs (.inr (by omega)) h
            · rw [if_neg hfr] at h
              exact ih (i + 1) fr _ _ e r1 r2 r3 hd2 hlt hs (by omega) h
          · rw [if_neg h2] at h
            by_cases h3 : kindR c.toNat = 3
            · rw [if_pos h3] at h
              exact ih (i + 1) (-1) _ _ i r1 r2 r3 hd2 hlt hc (.inl ⟨rfl, by omega⟩) h
            · rw [if_neg h3] at h
              obtain ⟨rfl, h4⟩ := Prod.mk.inj h
              obtain ⟨rfl, rfl⟩ := Prod.mk.inj h4
              exact .inr ⟨rfl, rfl, by omega, by omega⟩

/-- What a word is made of. -/
def IsWord (b : List UInt8) : Prop := (∃ c : UInt8, b = [c] ∧ kindR c.toNat = 1) ∨ (b ≠ [] ∧ ∀ c ∈ b, kindR (c : UInt8).toNat = 2)

def Texts (l : List Tok) : List (List UInt8) := l.map fun t => t.f0.data.toList

theorem texts_close {s : ByteArray} {fr : Int} {i : Nat} {out : List Tok} (h : ∀ b ∈ Texts out, IsWord b) (hf : fr = -1 ∨ 0 ≤ fr ∧ fr < i ∧ i ≤ s.size ∧ ∀ c ∈ (s.data.toList.take i).drop fr.toNat, kindR (c : UInt8).toNat = 2) : ∀ b ∈ Texts (closeW s fr i out), IsWord b := by
  unfold closeW
  rcases hf with h1 | ⟨h1, h2, h3, h4⟩
  · rw [if_pos (by omega)]; exact h
  · rw [if_neg (by omega)]
    intro b hb
    simp only [Texts, List.map_append, List.map_cons, List.map_nil, List.mem_append, List.mem_singleton] at hb
    rcases hb with hb | rfl
    · exact h b hb
    · right
      have e : (s.extract fr.toNat i).data.toList = (s.data.toList.take i).drop fr.toNat := by
        rw [mk_data s, mk_extract]
      rw [e]
      refine ⟨fun e2 => ?_, h4⟩
      have := congrArg List.length e2
      rw [List.length_drop, List.length_take, List.length_nil] at this
      have : s.size = s.data.toList.length := rfl
      omega

theorem split_words (s : ByteArray) : ∀ (l : List UInt8) (i : Nat) (fr : Int) (noted : Bool) (out : List Tok) (r1 : List Tok) (r2 r3 : Int), s.data.toList.drop i = l → i ≤ s.size → (∀ b ∈ Texts out, IsWord b) → (fr = -1 ∨ 0 ≤ fr ∧ fr < i ∧ i ≤ s.size ∧ ∀ c ∈ (s.data.toList.take i).drop fr.toNat, kindR (c : UInt8).toNat = 2) → (noted = true → fr = -1) →
    splitGo s l i fr noted out = (r1, r2, r3) → ∀ b ∈ Texts r1, IsWord b := by
  intro l
  induction l with
  | nil =>
    intro i fr noted out r1 r2 r3 hd hi hs hf hno h
    rw [splitGo] at h
    obtain ⟨rfl, h2⟩ := Prod.mk.inj h
    exact texts_close hs hf
  | cons c l ih =>
    intro i fr noted out r1 r2 r3 hd hi hs hf hno h
    have hlen : s.size = s.data.toList.length := rfl
    have hlt : i < s.size := by
      have h9 := congrArg List.length hd
      rw [List.length_drop, List.length_cons] at h9
      omega
    have hd2 : s.data.toList.drop (i + 1) = l := by
      rw [← List.drop_drop, hd]; rfl
    have hc := texts_close hs hf
    have hget : s.data.toList[i]'(by omega) = c := by
      have h9 := hd
      rw [List.drop_eq_getElem_cons (by omega)] at h9
      exact (List.cons.inj h9).1
    rw [splitGo] at h
    by_cases hn : noted = true
    · rw [if_pos hn] at h
      have := hno hn
      exact ih (i + 1) fr _ out r1 r2 r3 hd2 hlt hs (.inl this) (fun _ => this) h
    · rw [if_neg hn] at h
      by_cases h0 : kindR c.toNat = 0
      · rw [if_pos h0] at h
        exact ih (i + 1) (-1) _ _ r1 r2 r3 hd2 hlt hc (.inl rfl) (fun _ => rfl) h
      · rw [if_neg h0] at h
        by_cases h1 : kindR c.toNat = 1
        · rw [if_pos h1] at h
          refine ih (i + 1) (-1) _ _ r1 r2 r3 hd2 hlt ?_ (.inl rfl) (fun _ => rfl) h
          intro b hb
          simp only [Texts, List.map_append, List.map_cons, List.map_nil, List.mem_append, List.mem_singleton] at hb
          rcases hb with hb | rfl
          · exact hc b hb
          · exact .inl ⟨c, rfl, h1⟩
        · rw [if_neg h1] at h
          have hsnoc : s.data.toList.take (i + 1) = s.data.toList.take i ++ [c] := by
            rw [List.take_succ_eq_append_getElem (by omega), hget]
          by_cases h2 : kindR c.toNat = 2
          · rw [if_pos h2] at h
            by_cases hfr : fr < 0
            · rw [if_pos hfr] at h
              refine ih (i + 1) i _ _ r1 r2 r3 hd2 hlt hs (.inr ⟨by omega, by omega, by omega, ?_⟩) (fun e => by cases e) h
              intro x hx
              rw [hsnoc, Int.toNat_natCast, List.drop_append_of_le_length (by rw [List.length_take]; omega), List.drop_eq_nil_of_le (by rw [List.length_take]; omega), List.nil_append, List.mem_singleton] at hx
              rw [hx]; exact h2
            · rw [if_neg hfr] at h
              rcases hf with hf | ⟨g1, g2, g3, g4⟩
              · omega
              · refine ih (i + 1) fr _ _ r1 r2 r3 hd2 hlt hs (.inr ⟨by omega, by omega, by omega, ?_⟩) (fun e => by cases e) h
                intro x hx
                rw [hsnoc, List.drop_append_of_le_length (by rw [List.length_take]; omega), List.mem_append, List.mem_singleton] at hx
                rcases hx with hx | rfl
                · exact g4 x hx
                · exact h2
          · rw [if_neg h2] at h
            by_cases h3 : kindR c.toNat = 3
            · rw [if_pos h3] at h
              exact ih (i + 1) (-1) _ _ r1 r2 r3 hd2 hlt hc (.inl rfl) (fun _ => rfl) h
            · rw [if_neg h3] at h
              obtain ⟨rfl, h4⟩ := Prod.mk.inj h
              intro b hb
              simp [Texts] at hb

/-- Through the letters of a word. -/
theorem go_word (s : ByteArray) (rest : List UInt8) : ∀ (b : List UInt8) (i : Nat) (fr : Int) (out : List Tok), 0 ≤ fr → (∀ c ∈ b, kindR (c : UInt8).toNat = 2) → splitGo s (b ++ rest) i fr false out = splitGo s rest (i + b.length) fr false out := by
  intro b
  induction b with
  | nil => intro i fr out _ _; rfl
  | cons c b ih =>
    intro i fr out h0 h
    have hc := h c (by simp)
    rw [List.cons_append, splitGo, if_neg (by simp), if_neg (by omega), if_neg (by omega), if_pos hc, if_neg (by omega), ih (i + 1) fr out h0 (fun x hx => h x (by simp [hx])), List.length_cons]
    congr 1
    omega

/-- A word and what ends it. -/
theorem go_one (s : ByteArray) (b rest : List UInt8) (i : Nat) (out : List Tok) (hb : IsWord b) (hd : s.data.toList.drop i = b ++ rest) (hr : rest = [] ∨ ∃ r, rest = 32 :: r) :
    splitGo s (b ++ rest) i (-1) false out = splitGo s rest.tail (i + b.length + (if rest = [] then 0 else 1)) (-1) false (out ++ [⟨mk b, i⟩]) := by
  rcases hb with ⟨c, rfl, hc⟩ | ⟨hne, hb⟩
  · have e1 : closeW s (-1) i out = out := by unfold closeW; rw [if_pos (by omega)]
    have e2 : splitGo s ([c] ++ rest) i (-1) false out = splitGo s rest (i + 1) (-1) false (out ++ [⟨mk [c], i⟩]) := by
      rw [List.singleton_append, splitGo, if_neg (by simp), if_neg (by omega), if_pos hc, e1]
    rw [e2]
    rcases hr with rfl | ⟨r, rfl⟩
    · rfl
    · rw [splitGo, if_neg (by simp), if_pos (by decide), if_neg (by simp)]
      unfold closeW
      rw [if_pos (by omega)]
      rfl
  · cases b with
    | nil => exact absurd rfl hne
    | cons c b =>
      have hc := hb c (by simp)
      have e2 : splitGo s ((c :: b) ++ rest) i (-1) false out = splitGo s rest (i + (c :: b).length) i false out := by
        rw [List.cons_append, splitGo, if_neg (by simp), if_neg (by omega), if_neg (by omega), if_pos hc, if_pos (by omega), go_word s rest b (i + 1) i out (by omega) (fun x hx => hb x (by simp [hx])), List.length_cons]
        congr 1
        omega
      have e3 : closeW s i (i + (c :: b).length) out = out ++ [⟨mk (c :: b), i⟩] := by
        unfold closeW
        rw [if_neg (by omega), Int.toNat_natCast]
        have : s.extract i (i + (c :: b).length) = mk (c :: b) := by
          rw [mk_data s, mk_extract]
          congr 1
          rw [List.drop_take, hd]
          have : i + (c :: b).length - i = (c :: b).length := by omega
          rw [this, List.take_left']
          rfl
        rw [this]
      rw [e2]
      rcases hr with rfl | ⟨r, rfl⟩
      · rw [if_pos rfl, Nat.add_zero, List.tail_nil, splitGo, splitGo, e3]
        unfold closeW
        rw [if_pos (by omega)]
      · rw [splitGo, if_neg (by simp), if_pos (by decide), if_neg (by simp), e3]
        rfl

/-- Words put together. -/
def glue : List (List UInt8) → List UInt8
  | [] => []
  | [b] => b
  | b :: l => b ++ 32 :: glue l

theorem glue_cons (b : List UInt8) (l : List (List UInt8)) : glue (b :: l) = b ++ (if l = [] then [] else 32 :: glue l) := by
  cases l with
  | nil => simp [glue]
  | cons x l => rw [if_neg (by simp)]; rfl

theorem split_glue (s : ByteArray) : ∀ (ws : List (List UInt8)) (i : Nat) (out : List Tok), (∀ b ∈ ws, IsWord b) → s.data.toList.drop i = glue ws → ∃ l, splitGo s (glue ws) i (-1) false out = (out ++ l, 0, 0) ∧ Texts l = ws := by
  intro ws
  induction ws with
  | nil =>
    intro i out _ _
    refine ⟨[], ?_, rfl⟩
    show splitGo s [] i (-1) false out = _
    rw [splitGo]
    unfold closeW
    rw [if_pos (by omega), List.append_nil]
  | cons b ws ih =>
    intro i out hw hd
    rw [glue_cons] at hd ⊢
    rw [go_one s b _ i out (hw b (by simp)) hd (by
      by_cases h : ws = []
      · rw [if_pos h]; exact .inl rfl
      · rw [if_neg h]; exact .inr ⟨_, rfl⟩)]
    by_cases h : ws = []
    · subst h
      rw [if_pos rfl, if_pos rfl]
      refine ⟨[⟨mk b, i⟩], ?_, rfl⟩
      rw [List.tail_nil, splitGo]
      unfold closeW
      rw [if_pos (by omega)]
    · rw [if_neg h] at hd ⊢
      rw [if_neg (by simp), List.tail_cons]
      obtain ⟨l, h1, h2⟩ := ih (i + b.length + 1) (out ++ [⟨mk b, i⟩]) (fun x hx => hw x (by simp [hx])) (by
        have h9 := congrArg (fun z => z.drop (b.length + 1)) hd
        simp only [List.drop_drop] at h9
        rw [Nat.add_assoc, h9]
        rw [List.drop_append]
        have e1 : b.drop (b.length + 1) = [] := List.drop_eq_nil_of_le (by omega)
        have e2 : b.length + 1 - b.length = 1 := by omega
        rw [e1, e2, List.nil_append, List.drop_one, List.tail_cons])
      refine ⟨⟨mk b, i⟩ :: l, ?_, ?_⟩
      · rw [h1, List.append_assoc]; rfl
      · show b :: Texts l = b :: ws; rw [h2]
end Go.Proofs.Ythnkgnbemmndgaa.PTk
