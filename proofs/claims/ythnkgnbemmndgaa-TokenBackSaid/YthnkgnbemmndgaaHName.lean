/- What the program's token.Name answers: whether a text is a name (a small letter, and then small letters, digits and underlines; 24 at most); for every text no longer than memory. -/
import Derived.Test.YthnkgnbemmndgaaPTkx0
import Derived.Test.YthnkgnbemmndgaaStr
import Derived.Lib.ConvBytes
namespace Go.Proofs.Ythnkgnbemmndgaa.PTk
open Go.RowKit Go.Proofs.YthnkgnbemmndgaaW.PrintWords Go.Proofs.YthnkgnbemmndgaaW.PrintLast Go.Proofs.YthnkgnbemmndgaaW.PrintMore Go.Proofs.Ythnkgnbemmndgaa.Str
set_option linter.unusedVariables false
set_option linter.unusedSimpArgs false

/-- May a byte stand in a name, at place i? -/
def nameC (i : Nat) (c : UInt8) : Bool := (decide (97 ≤ c.toNat) && decide (c.toNat ≤ 122)) || (!decide (i = 0) && (decide (c.toNat = 95) || (decide (48 ≤ c.toNat) && decide (c.toNat ≤ 57))))
def nameFrom : Nat → List UInt8 → Bool
  | _, [] => true
  | i, c :: l => nameC i c && nameFrom (i + 1) l
def nameL (l : List UInt8) : Bool := !l.isEmpty && decide (l.length ≤ 24) && nameFrom 0 l

def token_Name.f (a0 : ByteArray) : Option Bool := some (nameL a0.data.toList)

theorem nameFrom_drop (l : List UInt8) (k : Nat) (h : k < l.length) : nameFrom k (l.drop k) = (nameC k (l[k]) && nameFrom (k + 1) (l.drop (k + 1))) := by
  rw [List.drop_eq_getElem_cons h]; rfl

theorem bytes_below (w : World) (e : TypeId) (s : ByteArray) : Below w.heap.size w (Lib.bytesWorld w e s) := by
  have h1 : Below w.heap.size w (w.drew.alloc (.cells (Lib.bytesCells w e s) e)) := ((Below.refl _ _).drew).alloc (Nat.le_refl _) _
  refine ⟨h1.os, ?_, h1.output, ?_, fun i hi => Lib.bytesWorld_at_old w e s i hi⟩
  · exact h1.tape
  · rw [Lib.bytesWorld_size]; omega

set_option maxHeartbeats 4000000 in
set_option maxRecDepth 100000 in
theorem token_Name.calls (a0 : ByteArray) (r : Bool) (w : World) (h : token_Name.f a0 = some r) :
    Calls Try.prog 32 #[.string a0] w fun e w' => e = .returned (.bool r) ∧ Below w.heap.size w w' := by
  obtain rfl := Option.some.inj h
  clear h
  have hsl : a0.size = a0.data.toList.length := rfl
  by_cases h0 : a0.size = 0
  · have hd : ((a0.size : Int) == 0) = true := by rw [h0]; rfl
    have hr : nameL a0.data.toList = false := by
      have : a0.data.toList = [] := List.length_eq_zero_iff.1 (by omega)
      rw [this]; rfl
    have HR := Aside0.mk hr
    clear hr hsl h0
    go_enter Try.func32, Try.ntmps32
    go_wp2
    go_ret
    exact ⟨by rw [HR.out]; rfl, Below.refl _ _⟩
  · have hd : ((a0.size : Int) == 0) = false := by rw [beq_eq_false_iff_ne]; omega
    by_cases h24 : a0.size ≤ 24
    case neg =>
      have hd2 : decide ((24 : Int) < (a0.size : Int)) = true := decide_eq_true (by omega)
      have hr : nameL a0.data.toList = false := by
        unfold nameL
        rw [decide_eq_false (by omega), Bool.and_false, Bool.false_and]
      have HR := Aside0.mk hr
      clear hr hsl h0
      go_enter Try.func32, Try.ntmps32
      go_wp2
      go_ret
      exact ⟨by rw [HR.out]; rfl, Below.refl _ _⟩
    case pos =>
      have hd2 : decide ((24 : Int) < (a0.size : Int)) = false := decide_eq_false (by omega)
      have hr : nameL a0.data.toList = nameFrom 0 a0.data.toList := by
        unfold nameL
        have : a0.data.toList ≠ [] := fun e => h0 (by rw [hsl, e]; rfl)
        have e1 : a0.data.toList.isEmpty = false := by simpa using this
        rw [e1, decide_eq_true (by omega)]; simp
      have HR := Aside0.mk hr
      have HSL := Aside0.mk hsl
      clear hr hsl h0
      have hcv := Lib.run_convert_string_bytes (P := Try.prog) w 9 57 5 a0 Try.underlying9 Try.underlying57 Try.underlying5
      have hcell : ∀ j : Nat, j < a0.size → (Lib.bytesWorld w 5 a0).cell? ⟨w.heap.size, j, none⟩ = some (.int .u8 (a0.data.toList.getD j 0).toNat) := fun j hj => Lib.bytesWorld_cell w _ a0 j hj
      have HC := Aside0.mk hcell
      have HB := Aside0.mk (bytes_below w 5 a0)
      clear hcell
      generalize hg : grownCap w a0.size 0 5 = cap at hcv
      clear hg
      go_enter Try.func32, Try.ntmps32
      go_wp2
      go_loop [17] (fun i => ∃ k : Nat, k ≤ a0.size ∧ i = .int .i64 k ∧ Aside0 (nameFrom 0 a0.data.toList = nameFrom k (a0.data.toList.drop k))) (fun i => a0.size - (intOf i).toNat)
      case atStart => exact ⟨0, Nat.zero_le _, rfl, ⟨rfl⟩⟩
      case round =>
        obtain ⟨k, hk, rfl, HN⟩ := hrel
        by_cases hlt : k < a0.size
        · have hc := HC.out k hlt
          obtain ⟨cv, hcv2⟩ : ∃ cv : Nat, cv = (a0.data.toList.getD k 0).toNat := ⟨_, rfl⟩
          have hb : cv < 256 := by rw [hcv2]; exact UInt8.toNat_lt _
          rw [← hcv2] at hc
          have HX := Aside0.mk (show (a0.data.toList[k]'(by rw [← HSL.out]; exact hlt)).toNat = cv by rw [hcv2, List.getD_eq_getElem?_getD, List.getElem?_eq_getElem (by rw [← HSL.out]; exact hlt)]; rfl)
          clear hcv2
          by_cases hsm : 97 ≤ cv ∧ cv ≤ 122
          · obtain ⟨s1, s2⟩ := hsm
            have HE := Aside0.mk (show nameC k (a0.data.toList[k]'(by rw [← HSL.out]; exact hlt)) = true by unfold nameC; rw [HX.out]; simp; omega)
            go_wp2
            go_round
            case rel => exact ⟨k + 1, by omega, by go_num, ⟨by rw [HN.out, nameFrom_drop _ _ (by rw [← HSL.out]; exact hlt), HE.out, Bool.true_and]⟩⟩
            case measure => simp [intOf]; omega
          · have hdm : (decide ((97 : Int) ≤ (cv : Int)) = false) ∨ (decide ((97 : Int) ≤ (cv : Int)) = true ∧ decide ((cv : Int) ≤ 122) = false) := by
              by_cases e : 97 ≤ cv
              · exact .inr ⟨decide_eq_true (by omega), decide_eq_false (by omega)⟩
              · exact .inl (decide_eq_false (by omega))
            by_cases hk0 : k = 0
            · subst hk0
              rcases hdm with d1 | ⟨d1, d2⟩
              all_goals
                have HE := Aside0.mk (show nameC 0 (a0.data.toList[0]'(by rw [← HSL.out]; exact hlt)) = false by unfold nameC; rw [HX.out]; simp; omega)
                go_wp2
                go_ret
                exact ⟨by rw [HR.out, HN.out, nameFrom_drop _ _ (by rw [← HSL.out]; exact hlt), HE.out]; rfl, HB.out⟩
            · have hk1 : ((k : Int) == 0) = false := by rw [beq_eq_false_iff_ne]; omega
              by_cases h95 : cv = 95
              · subst h95
                have HE := Aside0.mk (show nameC k (a0.data.toList[k]'(by rw [← HSL.out]; exact hlt)) = true by unfold nameC; rw [HX.out]; simp; omega)
                go_wp2
                go_round
                case rel => exact ⟨k + 1, by omega, by go_num, ⟨by rw [HN.out, nameFrom_drop _ _ (by rw [← HSL.out]; exact hlt), HE.out, Bool.true_and]⟩⟩
                case measure => simp [intOf]; omega
              · have h96 : ((cv : Int) != 95) = true := by rw [bne_iff_ne]; omega
                by_cases h48 : cv < 48
                · have d3 : decide ((cv : Int) < 48) = true := decide_eq_true (by omega)
                  rcases hdm with d1 | ⟨d1, d2⟩
                  all_goals
                    have HE := Aside0.mk (show nameC k (a0.data.toList[k]'(by rw [← HSL.out]; exact hlt)) = false by unfold nameC; rw [HX.out]; simp; omega)
                    go_wp2
                    go_ret
                    exact ⟨by rw [HR.out, HN.out, nameFrom_drop _ _ (by rw [← HSL.out]; exact hlt), HE.out]; rfl, HB.out⟩
                · have d3 : decide ((cv : Int) < 48) = false := decide_eq_false (by omega)
                  by_cases h57 : 57 < cv
                  · have d4 : decide ((57 : Int) < (cv : Int)) = true := decide_eq_true (by omega)
                    rcases hdm with d1 | ⟨d1, d2⟩
                    all_goals
                      have HE := Aside0.mk (show nameC k (a0.data.toList[k]'(by rw [← HSL.out]; exact hlt)) = false by unfold nameC; rw [HX.out]; simp; omega)
                      go_wp2
                      go_ret
                      exact ⟨by rw [HR.out, HN.out, nameFrom_drop _ _ (by rw [← HSL.out]; exact hlt), HE.out]; rfl, HB.out⟩
                  · have d4 : decide ((57 : Int) < (cv : Int)) = false := decide_eq_false (by omega)
                    rcases hdm with d1 | ⟨d1, d2⟩
                    all_goals
                      have HE := Aside0.mk (show nameC k (a0.data.toList[k]'(by rw [← HSL.out]; exact hlt)) = true by unfold nameC; rw [HX.out]; simp; omega)
                      go_wp2
                      go_round
                      case rel => exact ⟨k + 1, by omega, by go_num, ⟨by rw [HN.out, nameFrom_drop _ _ (by rw [← HSL.out]; exact hlt), HE.out, Bool.true_and]⟩⟩
                      case measure => simp [intOf]; omega
        · go_wp2
          go_ret
          have hkk : k = a0.size := by omega
          subst hkk
          exact ⟨by rw [HR.out, HN.out, HSL.out, List.drop_length]; rfl, HB.out⟩
end Go.Proofs.Ythnkgnbemmndgaa.PTk
