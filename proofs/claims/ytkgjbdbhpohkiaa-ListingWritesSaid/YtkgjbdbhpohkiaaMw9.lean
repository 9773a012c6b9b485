import Derived.Test.YtkgjbdbhpohkiaaMw2
import Derived.Test.YtkgjbdbhpohkiaaMw5
import Derived.Test.YtkgjbdbhpohkiaaMw7
import Derived.Deep.WholeRow
import Derived.KernelRfl
import Derived.Laws.CopyOwn
-- from YtkgjbdbhpohkiaaPLix6
section
namespace Go.Proofs.Ytkgjbdbhpohkiaa.PLi
open Go.RowKit Go.Proofs.YtkgjbdbhpohkiaaW.PrintWords Go.Proofs.YtkgjbdbhpohkiaaW.PrintLast Go.Proofs.YtkgjbdbhpohkiaaW.PrintMore Go.Proofs.Ytkgjbdbhpohkiaa.Zip
attribute [local go_sem] max2_int min2_int max_two min_two max_three min_three max_four min_four   -- for this text's walks alone
set_option linter.unusedVariables false
set_option linter.unusedSimpArgs false
mutual
def listing_parts.j0 : Nat → Int → Bool → Option (ByteArray)
 | 0, _, _ => none
 | k + 1, x3, x4 => if x4 = true then (some (⟨#[100, 110]⟩ : ByteArray)) else (if x3 = 2 then (listing_parts.j1 k x3 (x3 == 2)) else (if x3 = 3 then (listing_parts.j1 k x3 (x3 == 3)) else (if x3 = 4 then (listing_parts.j1 k x3 (x3 == 4)) else (if x3 = 5 then (listing_parts.j1 k x3 (x3 == 5)) else (if x3 = 6 then (listing_parts.j1 k x3 (x3 == 6)) else (if x3 = 7 then (listing_parts.j1 k x3 (x3 == 7)) else (listing_parts.j1 k x3 (x3 == 9))))))))
def listing_parts.j1 : Nat → Int → Bool → Option (ByteArray)
 | 0, _, _ => none
 | k + 1, x3, x7 => if x7 = true then (some (⟨#[100, 97, 98]⟩ : ByteArray)) else (if x3 = 8 then (some (⟨#[100]⟩ : ByteArray)) else (if x3 = 11 then (listing_parts.j2 k x3 (x3 == 11)) else (if x3 = 12 then (listing_parts.j2 k x3 (x3 == 12)) else (listing_parts.j2 k x3 (x3 == 15)))))
def listing_parts.j2 : Nat → Int → Bool → Option (ByteArray)
 | 0, _, _ => none
 | k + 1, x3, x17 => if x17 = true then (some (⟨#[100, 97, 110]⟩ : ByteArray)) else (if x3 = 13 then (listing_parts.j3 k x3 (x3 == 13)) else (listing_parts.j3 k x3 (x3 == 14)))
def listing_parts.j3 : Nat → Int → Bool → Option (ByteArray)
 | 0, _, _ => none
 | k + 1, x3, x21 => if x21 = true then (some (⟨#[97, 98, 110]⟩ : ByteArray)) else (if x3 = 16 then (listing_parts.j4 k x3 (x3 == 16)) else (if x3 = 17 then (listing_parts.j4 k x3 (x3 == 17)) else (listing_parts.j4 k x3 (x3 == 30))))
def listing_parts.j4 : Nat → Int → Bool → Option (ByteArray)
 | 0, _, _ => none
 | k + 1, x3, x24 => if x24 = true then (some (⟨#[100, 97]⟩ : ByteArray)) else (if x3 = 18 then (listing_parts.j5 k x3 (x3 == 18)) else (listing_parts.j5 k x3 (x3 == 19)))
def listing_parts.j5 : Nat → Int → Bool → Option (ByteArray)
 | 0, _, _ => none
 | k + 1, x3, x28 => if x28 = true then (some (⟨#[97, 98]⟩ : ByteArray)) else (if x3 = 21 then (some (⟨#[100, 102, 110, 108]⟩ : ByteArray)) else (if x3 = 22 then (listing_parts.j6 k x3 (x3 == 22)) else (if x3 = 25 then (listing_parts.j6 k x3 (x3 == 25)) else (listing_parts.j6 k x3 (x3 == 28)))))
def listing_parts.j6 : Nat → Int → Bool → Option (ByteArray)
 | 0, _, _ => none
 | k + 1, x3, x33 => if x33 = true then (some (⟨#[97]⟩ : ByteArray)) else (if x3 = 23 then (listing_parts.j7 k x3 (x3 == 23)) else (listing_parts.j7 k x3 (x3 == 29)))
def listing_parts.j7 : Nat → Int → Bool → Option (ByteArray)
 | 0, _, _ => none
 | k + 1, x3, x37 => if x37 = true then (some (⟨#[110]⟩ : ByteArray)) else (if x3 = 26 then (some (⟨#[111]⟩ : ByteArray)) else (if x3 = 27 then (some (⟨#[97, 111, 116]⟩ : ByteArray)) else (some (⟨#[]⟩ : ByteArray))))
end
def listing_parts.f (k : Nat) (a0 : Int) : Option (ByteArray) := if a0 = 1 then (listing_parts.j0 k a0 (a0 == 1)) else (listing_parts.j0 k a0 (a0 == 10))
theorem listing_parts.mono_l : ∀ k, (∀ y0 y1, LeO (listing_parts.j0 k y0 y1) (listing_parts.j0 (k + 1) y0 y1)) ∧ (∀ y0 y1, LeO (listing_parts.j1 k y0 y1) (listing_parts.j1 (k + 1) y0 y1)) ∧ (∀ y0 y1, LeO (listing_parts.j2 k y0 y1) (listing_parts.j2 (k + 1) y0 y1)) ∧ (∀ y0 y1, LeO (listing_parts.j3 k y0 y1) (listing_parts.j3 (k + 1) y0 y1)) ∧ (∀ y0 y1, LeO (listing_parts.j4 k y0 y1) (listing_parts.j4 (k + 1) y0 y1)) ∧ (∀ y0 y1, LeO (listing_parts.j5 k y0 y1) (listing_parts.j5 (k + 1) y0 y1)) ∧ (∀ y0 y1, LeO (listing_parts.j6 k y0 y1) (listing_parts.j6 (k + 1) y0 y1)) ∧ (∀ y0 y1, LeO (listing_parts.j7 k y0 y1) (listing_parts.j7 (k + 1) y0 y1))
 | 0 => ⟨fun _ _ r h => by simp [listing_parts.j0] at h, fun _ _ r h => by simp [listing_parts.j1] at h, fun _ _ r h => by simp [listing_parts.j2] at h, fun _ _ r h => by simp [listing_parts.j3] at h, fun _ _ r h => by simp [listing_parts.j4] at h, fun _ _ r h => by simp [listing_parts.j5] at h, fun _ _ r h => by simp [listing_parts.j6] at h, fun _ _ r h => by simp [listing_parts.j7] at h⟩
 | k + 1 => by
  obtain ⟨ih0, ih1, ih2, ih3, ih4, ih5, ih6, ih7⟩ := listing_parts.mono_l k
  refine ⟨?_, ?_, ?_, ?_, ?_, ?_, ?_, ?_⟩
  ·intro y0 y1
   unfold listing_parts.j0
   repeat' first
   | (with_reducible exact ih0 _ _)
   | (with_reducible exact ih1 _ _)
   | (with_reducible exact ih2 _ _)
   | (with_reducible exact ih3 _ _)
   | (with_reducible exact ih4 _ _)
   | (with_reducible exact ih5 _ _)
   | (with_reducible exact ih6 _ _)
   | (with_reducible exact ih7 _ _)
   | (with_reducible exact LeO.refl _)
   | (with_reducible exact LeO.none _)
   | (with_reducible refine LeO.ite ?_ ?_)
   | (with_reducible refine LeO.bind ?_ (fun _ => ?_))
   | exact ih0 _ _
   | exact ih1 _ _
   | exact ih2 _ _
   | exact ih3 _ _
   | exact ih4 _ _
   | exact ih5 _ _
   | exact ih6 _ _
   | exact ih7 _ _
   | exact LeO.none _
   | refine LeO.ite ?_ ?_
   | refine LeO.bind ?_ (fun _ => ?_)
  ·intro y0 y1
   unfold listing_parts.j1
   repeat' first
   | (with_reducible exact ih0 _ _)
   | (with_reducible exact ih1 _ _)
   | (with_reducible exact ih2 _ _)
   | (with_reducible exact ih3 _ _)
   | (with_reducible exact ih4 _ _)
   | (with_reducible exact ih5 _ _)
   | (with_reducible exact ih6 _ _)
   | (with_reducible exact ih7 _ _)
   | (with_reducible exact LeO.refl _)
   | (with_reducible exact LeO.none _)
   | (with_reducible refine LeO.ite ?_ ?_)
   | (with_reducible refine LeO.bind ?_ (fun _ => ?_))
   | exact ih0 _ _
   | exact ih1 _ _
   | exact ih2 _ _
   | exact ih3 _ _
   | exact ih4 _ _
   | exact ih5 _ _
   | exact ih6 _ _
   | exact ih7 _ _
   | exact LeO.none _
   | refine LeO.ite ?_ ?_
   | refine LeO.bind ?_ (fun _ => ?_)
  ·intro y0 y1
   unfold listing_parts.j2
   repeat' first
   | (with_reducible exact ih0 _ _)
   | (with_reducible exact ih1 _ _)
   | (with_reducible exact ih2 _ _)
   | (with_reducible exact ih3 _ _)
   | (with_reducible exact ih4 _ _)
   | (with_reducible exact ih5 _ _)
   | (with_reducible exact ih6 _ _)
   | (with_reducible exact ih7 _ _)
   | (with_reducible exact LeO.refl _)
   | (with_reducible exact LeO.none _)
   | (with_reducible refine LeO.ite ?_ ?_)
   | (with_reducible refine LeO.bind ?_ (fun _ => ?_))
   | exact ih0 _ _
   | exact ih1 _ _
   | exact ih2 _ _
   | exact ih3 _ _
   | exact ih4 _ _
   | exact ih5 _ _
   | exact ih6 _ _
   | exact ih7 _ _
   | exact LeO.none _
   | refine LeO.ite ?_ ?_
   | refine LeO.bind ?_ (fun _ => ?_)
  ·intro y0 y1
   unfold listing_parts.j3
   repeat' first
   | (with_reducible exact ih0 _ _)
   | (with_reducible exact ih1 _ _)
   | (with_reducible exact ih2 _ _)
   | (with_reducible exact ih3 _ _)
   | (with_reducible exact ih4 _ _)
   | (with_reducible exact ih5 _ _)
   | (with_reducible exact ih6 _ _)
   | (with_reducible exact ih7 _ _)
   | (with_reducible exact LeO.refl _)
   | (with_reducible exact LeO.none _)
   | (with_reducible refine LeO.ite ?_ ?_)
   | (with_reducible refine LeO.bind ?_ (fun _ => ?_))
   | exact ih0 _ _
   | exact ih1 _ _
   | exact ih2 _ _
   | exact ih3 _ _
   | exact ih4 _ _
   | exact ih5 _ _
   | exact ih6 _ _
   | exact ih7 _ _
   | exact LeO.none _
   | refine LeO.ite ?_ ?_
   | refine LeO.bind ?_ (fun _ => ?_)
  ·intro y0 y1
   unfold listing_parts.j4
   repeat' first
   | (with_reducible exact ih0 _ _)
   | (with_reducible exact ih1 _ _)
   | (with_reducible exact ih2 _ _)
   | (with_reducible exact ih3 _ _)
   | (with_reducible exact ih4 _ _)
   | (with_reducible exact ih5 _ _)
   | (with_reducible exact ih6 _ _)
   | (with_reducible exact ih7 _ _)
   | (with_reducible exact LeO.refl _)
   | (with_reducible exact LeO.none _)
   | (with_reducible refine LeO.ite ?_ ?_)
   | (with_reducible refine LeO.bind ?_ (fun _ => ?_))
   | exact ih0 _ _
   | exact ih1 _ _
   | exact ih2 _ _
   | exact ih3 _ _
   | exact ih4 _ _
   | exact ih5 _ _
   | exact ih6 _ _
   | exact ih7 _ _
   | exact LeO.none _
   | refine LeO.ite ?_ ?_
   | refine LeO.bind ?_ (fun _ => ?_)
  ·intro y0 y1
   unfold listing_parts.j5
   repeat' first
   | (with_reducible exact ih0 _ _)
   | (with_reducible exact ih1 _ _)
   | (with_reducible exact ih2 _ _)
   | (with_reducible exact ih3 _ _)
   | (with_reducible exact ih4 _ _)
   | (with_reducible exact ih5 _ _)
   | (with_reducible exact ih6 _ _)
   | (with_reducible exact ih7 _ _)
   | (with_reducible exact LeO.refl _)
   | (with_reducible exact LeO.none _)
   | (with_reducible refine LeO.ite ?_ ?_)
   | (with_reducible refine LeO.bind ?_ (fun _ => ?_))
   | exact ih0 _ _
   | exact ih1 _ _
   | exact ih2 _ _
   | exact ih3 _ _
   | exact ih4 _ _
   | exact ih5 _ _
   | exact ih6 _ _
   | exact ih7 _ _
   | exact LeO.none _
   | refine LeO.ite ?_ ?_
   | refine LeO.bind ?_ (fun _ => ?_)
  ·intro y0 y1
   unfold listing_parts.j6
   repeat' first
   | (with_reducible exact ih0 _ _)
   | (with_reducible exact ih1 _ _)
   | (with_reducible exact ih2 _ _)
   | (with_reducible exact ih3 _ _)
   | (with_reducible exact ih4 _ _)
   | (with_reducible exact ih5 _ _)
   | (with_reducible exact ih6 _ _)
   | (with_reducible exact ih7 _ _)
   | (with_reducible exact LeO.refl _)
   | (with_reducible exact LeO.none _)
   | (with_reducible refine LeO.ite ?_ ?_)
   | (with_reducible refine LeO.bind ?_ (fun _ => ?_))
   | exact ih0 _ _
   | exact ih1 _ _
   | exact ih2 _ _
   | exact ih3 _ _
   | exact ih4 _ _
   | exact ih5 _ _
   | exact ih6 _ _
   | exact ih7 _ _
   | exact LeO.none _
   | refine LeO.ite ?_ ?_
   | refine LeO.bind ?_ (fun _ => ?_)
  ·intro y0 y1
   unfold listing_parts.j7
   repeat' first
   | (with_reducible exact ih0 _ _)
   | (with_reducible exact ih1 _ _)
   | (with_reducible exact ih2 _ _)
   | (with_reducible exact ih3 _ _)
   | (with_reducible exact ih4 _ _)
   | (with_reducible exact ih5 _ _)
   | (with_reducible exact ih6 _ _)
   | (with_reducible exact ih7 _ _)
   | (with_reducible exact LeO.refl _)
   | (with_reducible exact LeO.none _)
   | (with_reducible refine LeO.ite ?_ ?_)
   | (with_reducible refine LeO.bind ?_ (fun _ => ?_))
   | exact ih0 _ _
   | exact ih1 _ _
   | exact ih2 _ _
   | exact ih3 _ _
   | exact ih4 _ _
   | exact ih5 _ _
   | exact ih6 _ _
   | exact ih7 _ _
   | exact LeO.none _
   | refine LeO.ite ?_ ?_
   | refine LeO.bind ?_ (fun _ => ?_)
theorem listing_parts.mono : ∀ a0 k, LeO (listing_parts.f k a0) (listing_parts.f (k + 1) a0) := by
 intro a0 k
 obtain ⟨ih0, ih1, ih2, ih3, ih4, ih5, ih6, ih7⟩ := listing_parts.mono_l k
 unfold listing_parts.f
 repeat' first
   | (with_reducible exact ih0 _ _)
   | (with_reducible exact ih1 _ _)
   | (with_reducible exact ih2 _ _)
   | (with_reducible exact ih3 _ _)
   | (with_reducible exact ih4 _ _)
   | (with_reducible exact ih5 _ _)
   | (with_reducible exact ih6 _ _)
   | (with_reducible exact ih7 _ _)
   | (with_reducible exact LeO.refl _)
   | (with_reducible exact LeO.none _)
   | (with_reducible refine LeO.ite ?_ ?_)
   | (with_reducible refine LeO.bind ?_ (fun _ => ?_))
   | exact ih0 _ _
   | exact ih1 _ _
   | exact ih2 _ _
   | exact ih3 _ _
   | exact ih4 _ _
   | exact ih5 _ _
   | exact ih6 _ _
   | exact ih7 _ _
   | exact LeO.none _
   | refine LeO.ite ?_ ?_
   | refine LeO.bind ?_ (fun _ => ?_)
set_option maxHeartbeats 8000000 in
set_option maxRecDepth 100000 in
theorem listing_parts.calls (k : Nat) (a0 : Int) (r : ByteArray) (w : World) (h : listing_parts.f k a0 = some r) :
  Calls Try.prog 23 #[.int .i64 a0] w fun e w' => e = .returned (.string r) ∧ Drawn0 w w' := by
 have H : (if a0 = 1 then (listing_parts.j0 k a0 (a0 == 1)) else (listing_parts.j0 k a0 (a0 == 10))) = some r := h
 clear h
 have HC2 := Aside0.mk H
 clear H
 go_enter Try.func23, Try.ntmps23
 go_upto_if 4 with (fail)
 go_cut [4] (fun v4 wc => ∃ (kq : Nat) (x4_1 : Bool), v4 = .bool x4_1 ∧ Aside0 (listing_parts.j0 kq a0 x4_1 = some r) ∧ Aside0 (kq ≤ k) ∧ Drawn0 w wc)
 case first =>
  have H := HC2.out
  clear HC2
  by_cases c3 : a0 = 1
  ·rw [if_pos c3] at H
   have c3b0 : (a0 == 1) = true := beq_iff_eq.mpr c3
   have c3b1 : (a0 != 1) = false := bne_eq_false_iff_eq.mpr c3
   clear c3
   (first | rw [c3b0] | (simp only [i64_w, i32_w]; rw [c3b0]) | skip)
   have H' := Aside0.mk H
   clear H
   go_wp2
   go_meet
   case rel => exact ⟨_, ((a0 == 1)), (by first | rfl | (simp; done) | (simp [*]; done)), H', ⟨by first | omega | exact Nat.le_refl _⟩, zQ⟩
  ·rw [if_neg c3] at H
   have c3b0 : (a0 == 1) = false := beq_eq_false_iff_ne.mpr c3
   have c3b1 : (a0 != 1) = true := bne_iff_ne.mpr c3
   (first | rw [c3b0] | (simp only [i64_w, i32_w]; rw [c3b0]) | skip)
   have H' := Aside0.mk H
   clear H
   go_wp2
   go_meet
   case rel => exact ⟨_, ((a0 == 10)), (by first | rfl | (simp; done) | (simp [*]; done)), H', ⟨by first | omega | exact Nat.le_refl _⟩, zQ⟩
 case rest =>
  clear HC2
  try clear c2
  try clear p2
  try clear c3
  try clear c3b0
  try clear c3b1
  obtain ⟨kq, x4_1, rfl, HA, HJ1, ⟨mc1, rfl⟩⟩ := hcut
  cases kq with
  | zero => exact absurd HA.out (by simp [listing_parts.j0])
  | succ kj1 =>
   have H := HA.out
   clear HA
   simp only [listing_parts.j0] at H
   by_cases c4 : x4_1 = true
   ·subst c4
    have H1 : (some (⟨#[100, 110]⟩ : ByteArray)) = some r := by rw [if_pos rfl] at H; exact H
    clear H
    have H := H1
    clear H1
    obtain rfl := Option.some.inj H
    go_wp2
    go_ret
    exact ⟨by first | rfl | (simp; done) | (simp [*]; done), zQ⟩
   ·replace c4 := Bool.eq_false_iff.mpr c4
    subst c4
    have H1 : (if a0 = 2 then (listing_parts.j1 kj1 a0 (a0 == 2)) else (if a0 = 3 then (listing_parts.j1 kj1 a0 (a0 == 3)) else (if a0 = 4 then (listing_parts.j1 kj1 a0 (a0 == 4)) else (if a0 = 5 then (listing_parts.j1 kj1 a0 (a0 == 5)) else (if a0 = 6 then (listing_parts.j1 kj1 a0 (a0 == 6)) else (if a0 = 7 then (listing_parts.j1 kj1 a0 (a0 == 7)) else (listing_parts.j1 kj1 a0 (a0 == 9)))))))) = some r := by rw [if_neg (show ¬ (false = true) by decide)] at H; exact H
    clear H
    have H := H1
    clear H1
    have HC5 := Aside0.mk H
    clear H
    go_upto_if 7 with (fail)
    go_cut [7] (fun v7 wc => ∃ (kq : Nat) (x7_4 : Bool), v7 = .bool x7_4 ∧ Aside0 (listing_parts.j1 kq a0 x7_4 = some r) ∧ Aside0 (kq ≤ kj1) ∧ Drawn0 w wc)
    case first =>
     have H := HC5.out
     clear HC5
     by_cases c6 : a0 = 2
     ·rw [if_pos c6] at H
      have c6b0 : (a0 == 2) = true := beq_iff_eq.mpr c6
      have c6b1 : (a0 != 2) = false := bne_eq_false_iff_eq.mpr c6
      clear c6
      (first | rw [c6b0] | (simp only [i64_w, i32_w]; rw [c6b0]) | skip)
      have H' := Aside0.mk H
      clear H
      go_wp2
      go_meet
      case rel => exact ⟨_, ((a0 == 2)), (by first | rfl | (simp; done) | (simp [*]; done)), H', ⟨by have := HJ1.out; first | omega | exact Nat.le_refl _⟩, zQ⟩
     ·rw [if_neg c6] at H
      have c6b0 : (a0 == 2) = false := beq_eq_false_iff_ne.mpr c6
      have c6b1 : (a0 != 2) = true := bne_iff_ne.mpr c6
      (first | rw [c6b0] | (simp only [i64_w, i32_w]; rw [c6b0]) | skip)
      by_cases c7 : a0 = 3
      ·rw [if_pos c7] at H
       have c7b0 : (a0 == 3) = true := beq_iff_eq.mpr c7
       have c7b1 : (a0 != 3) = false := bne_eq_false_iff_eq.mpr c7
       clear c7
       have H' := Aside0.mk H
       clear H
       go_wp2
       go_meet
       case rel => exact ⟨_, ((a0 == 3)), (by first | rfl | (simp; done) | (simp [*]; done)), H', ⟨by have := HJ1.out; first | omega | exact Nat.le_refl _⟩, zQ⟩
      ·rw [if_neg c7] at H
       have c7b0 : (a0 == 3) = false := beq_eq_false_iff_ne.mpr c7
       have c7b1 : (a0 != 3) = true := bne_iff_ne.mpr c7
       by_cases c8 : a0 = 4
       ·rw [if_pos c8] at H
        have c8b0 : (a0 == 4) = true := beq_iff_eq.mpr c8
        have c8b1 : (a0 != 4) = false := bne_eq_false_iff_eq.mpr c8
        clear c8
        have H' := Aside0.mk H
        clear H
        go_wp2
        go_meet
        case rel => exact ⟨_, ((a0 == 4)), (by first | rfl | (simp; done) | (simp [*]; done)), H', ⟨by have := HJ1.out; first | omega | exact Nat.le_refl _⟩, zQ⟩
       ·rw [if_neg c8] at H
        have c8b0 : (a0 == 4) = false := beq_eq_false_iff_ne.mpr c8
        have c8b1 : (a0 != 4) = true := bne_iff_ne.mpr c8
        by_cases c9 : a0 = 5
        ·rw [if_pos c9] at H
         have c9b0 : (a0 == 5) = true := beq_iff_eq.mpr c9
         have c9b1 : (a0 != 5) = false := bne_eq_false_iff_eq.mpr c9
         clear c9
         have H' := Aside0.mk H
         clear H
         go_wp2
         go_meet
         case rel => exact ⟨_, ((a0 == 5)), (by first | rfl | (simp; done) | (simp [*]; done)), H', ⟨by have := HJ1.out; first | omega | exact Nat.le_refl _⟩, zQ⟩
        ·rw [if_neg c9] at H
         have c9b0 : (a0 == 5) = false := beq_eq_false_iff_ne.mpr c9
         have c9b1 : (a0 != 5) = true := bne_iff_ne.mpr c9
         by_cases c10 : a0 = 6
         ·rw [if_pos c10] at H
          have c10b0 : (a0 == 6) = true := beq_iff_eq.mpr c10
          have c10b1 : (a0 != 6) = false := bne_eq_false_iff_eq.mpr c10
          clear c10
          have H' := Aside0.mk H
          clear H
          go_wp2
          go_meet
          case rel => exact ⟨_, ((a0 == 6)), (by first | rfl | (simp; done) | (simp [*]; done)), H', ⟨by have := HJ1.out; first | omega | exact Nat.le_refl _⟩, zQ⟩
         ·rw [if_neg c10] at H
          have c10b0 : (a0 == 6) = false := beq_eq_false_iff_ne.mpr c10
          have c10b1 : (a0 != 6) = true := bne_iff_ne.mpr c10
          by_cases c11 : a0 = 7
          ·rw [if_pos c11] at H
           have c11b0 : (a0 == 7) = true := beq_iff_eq.mpr c11
           have c11b1 : (a0 != 7) = false := bne_eq_false_iff_eq.mpr c11
           clear c11
           have H' := Aside0.mk H
           clear H
           go_wp2
           go_meet
           case rel => exact ⟨_, ((a0 == 7)), (by first | rfl | (simp; done) | (simp [*]; done)), H', ⟨by have := HJ1.out; first | omega | exact Nat.le_refl _⟩, zQ⟩
          ·rw [if_neg c11] at H
           have c11b0 : (a0 == 7) = false := beq_eq_false_iff_ne.mpr c11
           have c11b1 : (a0 != 7) = true := bne_iff_ne.mpr c11
           have H' := Aside0.mk H
           clear H
           go_wp2
           go_meet
           case rel => exact ⟨_, ((a0 == 9)), (by first | rfl | (simp; done) | (simp [*]; done)), H', ⟨by have := HJ1.out; first | omega | exact Nat.le_refl _⟩, zQ⟩
    case rest =>
     clear HC5
     try clear c1
     try clear c2
     try clear p2
     try clear c3
     try clear c3b0
     try clear c3b1
     try clear c4
     try clear c6
     try clear c6b0
     try clear c6b1
     try clear c7
     try clear c7b0
     try clear c7b1
     try clear c8
     try clear c8b0
     try clear c8b1
     try clear c9
     try clear c9b0
     try clear c9b1
     try clear c10
     try clear c10b0
     try clear c10b1
     try clear c11
     try clear c11b0
     try clear c11b1
     try clear p2
     obtain ⟨kq, x7_4, rfl, HA, HJ4, ⟨mc4, rfl⟩⟩ := hcut
     cases kq with
     | zero => exact absurd HA.out (by simp [listing_parts.j1])
     | succ kj4 =>
      have H := HA.out
      clear HA
      simp only [listing_parts.j1] at H
      by_cases c12 : x7_4 = true
      ·subst c12
       have H1 : (some (⟨#[100, 97, 98]⟩ : ByteArray)) = some r := by rw [if_pos rfl] at H; exact H
       clear H
       have H := H1
       clear H1
       obtain rfl := Option.some.inj H
       go_wp2
       go_ret
       exact ⟨by first | rfl | (simp; done) | (simp [*]; done), zQ⟩
      ·replace c12 := Bool.eq_false_iff.mpr c12
       subst c12
       have H1 : (if a0 = 8 then (some (⟨#[100]⟩ : ByteArray)) else (if a0 = 11 then (listing_parts.j2 kj4 a0 (a0 == 11)) else (if a0 = 12 then (listing_parts.j2 kj4 a0 (a0 == 12)) else (listing_parts.j2 kj4 a0 (a0 == 15))))) = some r := by rw [if_neg (show ¬ (false = true) by decide)] at H; exact H
       clear H
       have H := H1
       clear H1
       by_cases c13 : a0 = 8
       ·rw [if_pos c13] at H
        have c13b0 : (a0 == 8) = true := beq_iff_eq.mpr c13
        have c13b1 : (a0 != 8) = false := bne_eq_false_iff_eq.mpr c13
        clear c13
        obtain rfl := Option.some.inj H
        go_wp2
        go_ret
        exact ⟨by first | rfl | (simp; done) | (simp [*]; done), zQ⟩
       ·rw [if_neg c13] at H
        have c13b0 : (a0 == 8) = false := beq_eq_false_iff_ne.mpr c13
        have c13b1 : (a0 != 8) = true := bne_iff_ne.mpr c13
        have HC14 := Aside0.mk H
        clear H
        go_upto_if 17 with (fail)
        go_cut [17] (fun v17 wc => ∃ (kq : Nat) (x17_13 : Bool), v17 = .bool x17_13 ∧ Aside0 (listing_parts.j2 kq a0 x17_13 = some r) ∧ Aside0 (kq ≤ kj4) ∧ Drawn0 w wc)
        case first =>
         have H := HC14.out
         clear HC14
         by_cases c15 : a0 = 11
         ·rw [if_pos c15] at H
          have c15b0 : (a0 == 11) = true := beq_iff_eq.mpr c15
          have c15b1 : (a0 != 11) = false := bne_eq_false_iff_eq.mpr c15
          clear c15
          (first | rw [c15b0] | (simp only [i64_w, i32_w]; rw [c15b0]) | skip)
          have H' := Aside0.mk H
          clear H
          go_wp2
          go_meet
          case rel => exact ⟨_, ((a0 == 11)), (by first | rfl | (simp; done) | (simp [*]; done)), H', ⟨by have := HJ1.out; have := HJ4.out; first | omega | exact Nat.le_refl _⟩, zQ⟩
         ·rw [if_neg c15] at H
          have c15b0 : (a0 == 11) = false := beq_eq_false_iff_ne.mpr c15
          have c15b1 : (a0 != 11) = true := bne_iff_ne.mpr c15
          (first | rw [c15b0] | (simp only [i64_w, i32_w]; rw [c15b0]) | skip)
          by_cases c16 : a0 = 12
          ·rw [if_pos c16] at H
           have c16b0 : (a0 == 12) = true := beq_iff_eq.mpr c16
           have c16b1 : (a0 != 12) = false := bne_eq_false_iff_eq.mpr c16
           clear c16
           have H' := Aside0.mk H
           clear H
           go_wp2
           go_meet
           case rel => exact ⟨_, ((a0 == 12)), (by first | rfl | (simp; done) | (simp [*]; done)), H', ⟨by have := HJ1.out; have := HJ4.out; first | omega | exact Nat.le_refl _⟩, zQ⟩
          ·rw [if_neg c16] at H
           have c16b0 : (a0 == 12) = false := beq_eq_false_iff_ne.mpr c16
           have c16b1 : (a0 != 12) = true := bne_iff_ne.mpr c16
           have H' := Aside0.mk H
           clear H
           go_wp2
           go_meet
           case rel => exact ⟨_, ((a0 == 15)), (by first | rfl | (simp; done) | (simp [*]; done)), H', ⟨by have := HJ1.out; have := HJ4.out; first | omega | exact Nat.le_refl _⟩, zQ⟩
        case rest =>
         clear HC14
         try clear c1
         try clear c2
         try clear p2
         try clear c3
         try clear c3b0
         try clear c3b1
         try clear c4
         try clear c6
         try clear c6b0
         try clear c6b1
         try clear c7
         try clear c7b0
         try clear c7b1
         try clear c8
         try clear c8b0
         try clear c8b1
         try clear c9
         try clear c9b0
         try clear c9b1
         try clear c10
         try clear c10b0
         try clear c10b1
         try clear c11
         try clear c11b0
         try clear c11b1
         try clear c12
         try clear c13
         try clear c13b0
         try clear c13b1
         try clear c15
         try clear c15b0
         try clear c15b1
         try clear c16
         try clear c16b0
         try clear c16b1
         try clear p2
         obtain ⟨kq, x17_13, rfl, HA, HJ13, ⟨mc13, rfl⟩⟩ := hcut
         cases kq with
         | zero => exact absurd HA.out (by simp [listing_parts.j2])
         | succ kj13 =>
          have H := HA.out
          clear HA
          simp only [listing_parts.j2] at H
          by_cases c17 : x17_13 = true
          ·subst c17
           have H1 : (some (⟨#[100, 97, 110]⟩ : ByteArray)) = some r := by rw [if_pos rfl] at H; exact H
           clear H
           have H := H1
           clear H1
           obtain rfl := Option.some.inj H
           go_wp2
           go_ret
           exact ⟨by first | rfl | (simp; done) | (simp [*]; done), zQ⟩
          ·replace c17 := Bool.eq_false_iff.mpr c17
           subst c17
           have H1 : (if a0 = 13 then (listing_parts.j3 kj13 a0 (a0 == 13)) else (listing_parts.j3 kj13 a0 (a0 == 14))) = some r := by rw [if_neg (show ¬ (false = true) by decide)] at H; exact H
           clear H
           have H := H1
           clear H1
           have HC18 := Aside0.mk H
           clear H
           go_upto_if 21 with (fail)
           go_cut [21] (fun v21 wc => ∃ (kq : Nat) (x21_17 : Bool), v21 = .bool x21_17 ∧ Aside0 (listing_parts.j3 kq a0 x21_17 = some r) ∧ Aside0 (kq ≤ kj13) ∧ Drawn0 w wc)
           case first =>
            have H := HC18.out
            clear HC18
            by_cases c19 : a0 = 13
            ·rw [if_pos c19] at H
             have c19b0 : (a0 == 13) = true := beq_iff_eq.mpr c19
             have c19b1 : (a0 != 13) = false := bne_eq_false_iff_eq.mpr c19
             clear c19
             (first | rw [c19b0] | (simp only [i64_w, i32_w]; rw [c19b0]) | skip)
             have H' := Aside0.mk H
             clear H
             go_wp2
             go_meet
             case rel => exact ⟨_, ((a0 == 13)), (by first | rfl | (simp; done) | (simp [*]; done)), H', ⟨by have := HJ1.out; have := HJ4.out; have := HJ13.out; first | omega | exact Nat.le_refl _⟩, zQ⟩
            ·rw [if_neg c19] at H
             have c19b0 : (a0 == 13) = false := beq_eq_false_iff_ne.mpr c19
             have c19b1 : (a0 != 13) = true := bne_iff_ne.mpr c19
             (first | rw [c19b0] | (simp only [i64_w, i32_w]; rw [c19b0]) | skip)
             have H' := Aside0.mk H
             clear H
             go_wp2
             go_meet
             case rel => exact ⟨_, ((a0 == 14)), (by first | rfl | (simp; done) | (simp [*]; done)), H', ⟨by have := HJ1.out; have := HJ4.out; have := HJ13.out; first | omega | exact Nat.le_refl _⟩, zQ⟩
           case rest =>
            clear HC18
            try clear c1
            try clear c2
            try clear p2
            try clear c3
            try clear c3b0
            try clear c3b1
            try clear c4
            try clear c6
            try clear c6b0
            try clear c6b1
            try clear c7
            try clear c7b0
            try clear c7b1
            try clear c8
            try clear c8b0
            try clear c8b1
            try clear c9
            try clear c9b0
            try clear c9b1
            try clear c10
            try clear c10b0
            try clear c10b1
            try clear c11
            try clear c11b0
            try clear c11b1
            try clear c12
            try clear c13
            try clear c13b0
            try clear c13b1
            try clear c15
            try clear c15b0
            try clear c15b1
            try clear c16
            try clear c16b0
            try clear c16b1
            try clear c17
            try clear c19
            try clear c19b0
            try clear c19b1
            try clear p2
            obtain ⟨kq, x21_17, rfl, HA, HJ17, ⟨mc17, rfl⟩⟩ := hcut
            cases kq with
            | zero => exact absurd HA.out (by simp [listing_parts.j3])
            | succ kj17 =>
             have H := HA.out
             clear HA
             simp only [listing_parts.j3] at H
             by_cases c20 : x21_17 = true
             ·subst c20
              have H1 : (some (⟨#[97, 98, 110]⟩ : ByteArray)) = some r := by rw [if_pos rfl] at H; exact H
              clear H
              have H := H1
              clear H1
              obtain rfl := Option.some.inj H
              go_wp2
              go_ret
              exact ⟨by first | rfl | (simp; done) | (simp [*]; done), zQ⟩
             ·replace c20 := Bool.eq_false_iff.mpr c20
              subst c20
              have H1 : (if a0 = 16 then (listing_parts.j4 kj17 a0 (a0 == 16)) else (if a0 = 17 then (listing_parts.j4 kj17 a0 (a0 == 17)) else (listing_parts.j4 kj17 a0 (a0 == 30)))) = some r := by rw [if_neg (show ¬ (false = true) by decide)] at H; exact H
              clear H
              have H := H1
              clear H1
              have HC21 := Aside0.mk H
              clear H
              go_upto_if 24 with (fail)
              go_cut [24] (fun v24 wc => ∃ (kq : Nat) (x24_20 : Bool), v24 = .bool x24_20 ∧ Aside0 (listing_parts.j4 kq a0 x24_20 = some r) ∧ Aside0 (kq ≤ kj17) ∧ Drawn0 w wc)
              case first =>
               have H := HC21.out
               clear HC21
               by_cases c22 : a0 = 16
               ·rw [if_pos c22] at H
                have c22b0 : (a0 == 16) = true := beq_iff_eq.mpr c22
                have c22b1 : (a0 != 16) = false := bne_eq_false_iff_eq.mpr c22
                clear c22
                (first | rw [c22b0] | (simp only [i64_w, i32_w]; rw [c22b0]) | skip)
                have H' := Aside0.mk H
                clear H
                go_wp2
                go_meet
                case rel => exact ⟨_, ((a0 == 16)), (by first | rfl | (simp; done) | (simp [*]; done)), H', ⟨by have := HJ1.out; have := HJ4.out; have := HJ13.out; have := HJ17.out; first | omega | exact Nat.le_refl _⟩, zQ⟩
               ·rw [if_neg c22] at H
                have c22b0 : (a0 == 16) = false := beq_eq_false_iff_ne.mpr c22
                have c22b1 : (a0 != 16) = true := bne_iff_ne.mpr c22
                (first | rw [c22b0] | (simp only [i64_w, i32_w]; rw [c22b0]) | skip)
                by_cases c23 : a0 = 17
                ·rw [if_pos c23] at H
                 have c23b0 : (a0 == 17) = true := beq_iff_eq.mpr c23
                 have c23b1 : (a0 != 17) = false := bne_eq_false_iff_eq.mpr c23
                 clear c23
                 have H' := Aside0.mk H
                 clear H
                 go_wp2
                 go_meet
                 case rel => exact ⟨_, ((a0 == 17)), (by first | rfl | (simp; done) | (simp [*]; done)), H', ⟨by have := HJ1.out; have := HJ4.out; have := HJ13.out; have := HJ17.out; first | omega | exact Nat.le_refl _⟩, zQ⟩
                ·rw [if_neg c23] at H
                 have c23b0 : (a0 == 17) = false := beq_eq_false_iff_ne.mpr c23
                 have c23b1 : (a0 != 17) = true := bne_iff_ne.mpr c23
                 have H' := Aside0.mk H
                 clear H
                 go_wp2
                 go_meet
                 case rel => exact ⟨_, ((a0 == 30)), (by first | rfl | (simp; done) | (simp [*]; done)), H', ⟨by have := HJ1.out; have := HJ4.out; have := HJ13.out; have := HJ17.out; first | omega | exact Nat.le_refl _⟩, zQ⟩
              case rest =>
               clear HC21
               try clear c1
               try clear c2
               try clear p2
               try clear c3
               try clear c3b0
               try clear c3b1
               try clear c4
               try clear c6
               try clear c6b0
               try clear c6b1
               try clear c7
               try clear c7b0
               try clear c7b1
               try clear c8
               try clear c8b0
               try clear c8b1
               try clear c9
               try clear c9b0
               try clear c9b1
               try clear c10
               try clear c10b0
               try clear c10b1
               try clear c11
               try clear c11b0
               try clear c11b1
               try clear c12
               try clear c13
               try clear c13b0
               try clear c13b1
               try clear c15
               try clear c15b0
               try clear c15b1
               try clear c16
               try clear c16b0
               try clear c16b1
               try clear c17
               try clear c19
               try clear c19b0
               try clear c19b1
               try clear c20
               try clear c22
               try clear c22b0
               try clear c22b1
               try clear c23
               try clear c23b0
               try clear c23b1
               try clear p2
               obtain ⟨kq, x24_20, rfl, HA, HJ20, ⟨mc20, rfl⟩⟩ := hcut
               cases kq with
               | zero => exact absurd HA.out (by simp [listing_parts.j4])
               | succ kj20 =>
                have H := HA.out
                clear HA
                simp only [listing_parts.j4] at H
                by_cases c24 : x24_20 = true
                ·subst c24
                 have H1 : (some (⟨#[100, 97]⟩ : ByteArray)) = some r := by rw [if_pos rfl] at H; exact H
                 clear H
                 have H := H1
                 clear H1
                 obtain rfl := Option.some.inj H
                 go_wp2
                 go_ret
                 exact ⟨by first | rfl | (simp; done) | (simp [*]; done), zQ⟩
                ·replace c24 := Bool.eq_false_iff.mpr c24
                 subst c24
                 have H1 : (if a0 = 18 then (listing_parts.j5 kj20 a0 (a0 == 18)) else (listing_parts.j5 kj20 a0 (a0 == 19))) = some r := by rw [if_neg (show ¬ (false = true) by decide)] at H; exact H
                 clear H
                 have H := H1
                 clear H1
                 have HC25 := Aside0.mk H
                 clear H
                 go_upto_if 28 with (fail)
                 go_cut [28] (fun v28 wc => ∃ (kq : Nat) (x28_24 : Bool), v28 = .bool x28_24 ∧ Aside0 (listing_parts.j5 kq a0 x28_24 = some r) ∧ Aside0 (kq ≤ kj20) ∧ Drawn0 w wc)
                 case first =>
                  have H := HC25.out
                  clear HC25
                  by_cases c26 : a0 = 18
                  ·rw [if_pos c26] at H
                   have c26b0 : (a0 == 18) = true := beq_iff_eq.mpr c26
                   have c26b1 : (a0 != 18) = false := bne_eq_false_iff_eq.mpr c26
                   clear c26
                   (first | rw [c26b0] | (simp only [i64_w, i32_w]; rw [c26b0]) | skip)
                   have H' := Aside0.mk H
                   clear H
                   go_wp2
                   go_meet
                   case rel => exact ⟨_, ((a0 == 18)), (by first | rfl | (simp; done) | (simp [*]; done)), H', ⟨by have := HJ1.out; have := HJ4.out; have := HJ13.out; have := HJ17.out; have := HJ20.out; first | omega | exact Nat.le_refl _⟩, zQ⟩
                  ·rw [if_neg c26] at H
                   have c26b0 : (a0 == 18) = false := beq_eq_false_iff_ne.mpr c26
                   have c26b1 : (a0 != 18) = true := bne_iff_ne.mpr c26
                   (first | rw [c26b0] | (simp only [i64_w, i32_w]; rw [c26b0]) | skip)
                   have H' := Aside0.mk H
                   clear H
                   go_wp2
                   go_meet
                   case rel => exact ⟨_, ((a0 == 19)), (by first | rfl | (simp; done) | (simp [*]; done)), H', ⟨by have := HJ1.out; have := HJ4.out; have := HJ13.out; have := HJ17.out; have := HJ20.out; first | omega | exact Nat.le_refl _⟩, zQ⟩
                 case rest =>
                  clear HC25
                  try clear c1
                  try clear c2
                  try clear p2
                  try clear c3
                  try clear c3b0
                  try clear c3b1
                  try clear c4
                  try clear c6
                  try clear c6b0
                  try clear c6b1
                  try clear c7
                  try clear c7b0
                  try clear c7b1
                  try clear c8
                  try clear c8b0
                  try clear c8b1
                  try clear c9
                  try clear c9b0
                  try clear c9b1
                  try clear c10
                  try clear c10b0
                  try clear c10b1
                  try clear c11
                  try clear c11b0
                  try clear c11b1
                  try clear c12
                  try clear c13
                  try clear c13b0
                  try clear c13b1
                  try clear c15
                  try clear c15b0
                  try clear c15b1
                  try clear c16
                  try clear c16b0
                  try clear c16b1
                  try clear c17
                  try clear c19
                  try clear c19b0
                  try clear c19b1
                  try clear c20
                  try clear c22
                  try clear c22b0
                  try clear c22b1
                  try clear c23
                  try clear c23b0
                  try clear c23b1
                  try clear c24
                  try clear c26
                  try clear c26b0
                  try clear c26b1
                  try clear p2
                  obtain ⟨kq, x28_24, rfl, HA, HJ24, ⟨mc24, rfl⟩⟩ := hcut
                  cases kq with
                  | zero => exact absurd HA.out (by simp [listing_parts.j5])
                  | succ kj24 =>
                   have H := HA.out
                   clear HA
                   simp only [listing_parts.j5] at H
                   by_cases c27 : x28_24 = true
                   ·subst c27
                    have H1 : (some (⟨#[97, 98]⟩ : ByteArray)) = some r := by rw [if_pos rfl] at H; exact H
                    clear H
                    have H := H1
                    clear H1
                    obtain rfl := Option.some.inj H
                    go_wp2
                    go_ret
                    exact ⟨by first | rfl | (simp; done) | (simp [*]; done), zQ⟩
                   ·replace c27 := Bool.eq_false_iff.mpr c27
                    subst c27
                    have H1 : (if a0 = 21 then (some (⟨#[100, 102, 110, 108]⟩ : ByteArray)) else (if a0 = 22 then (listing_parts.j6 kj24 a0 (a0 == 22)) else (if a0 = 25 then (listing_parts.j6 kj24 a0 (a0 == 25)) else (listing_parts.j6 kj24 a0 (a0 == 28))))) = some r := by rw [if_neg (show ¬ (false = true) by decide)] at H; exact H
                    clear H
                    have H := H1
                    clear H1
                    by_cases c28 : a0 = 21
                    ·rw [if_pos c28] at H
                     have c28b0 : (a0 == 21) = true := beq_iff_eq.mpr c28
                     have c28b1 : (a0 != 21) = false := bne_eq_false_iff_eq.mpr c28
                     clear c28
                     obtain rfl := Option.some.inj H
                     go_wp2
                     go_ret
                     exact ⟨by first | rfl | (simp; done) | (simp [*]; done), zQ⟩
                    ·rw [if_neg c28] at H
                     have c28b0 : (a0 == 21) = false := beq_eq_false_iff_ne.mpr c28
                     have c28b1 : (a0 != 21) = true := bne_iff_ne.mpr c28
                     have HC29 := Aside0.mk H
                     clear H
                     go_upto_if 33 with (fail)
                     go_cut [33] (fun v33 wc => ∃ (kq : Nat) (x33_28 : Bool), v33 = .bool x33_28 ∧ Aside0 (listing_parts.j6 kq a0 x33_28 = some r) ∧ Aside0 (kq ≤ kj24) ∧ Drawn0 w wc)
                     case first =>
                      have H := HC29.out
                      clear HC29
                      by_cases c30 : a0 = 22
                      ·rw [if_pos c30] at H
                       have c30b0 : (a0 == 22) = true := beq_iff_eq.mpr c30
                       have c30b1 : (a0 != 22) = false := bne_eq_false_iff_eq.mpr c30
                       clear c30
                       (first | rw [c30b0] | (simp only [i64_w, i32_w]; rw [c30b0]) | skip)
                       have H' := Aside0.mk H
                       clear H
                       go_wp2
                       go_meet
                       case rel => exact ⟨_, ((a0 == 22)), (by first | rfl | (simp; done) | (simp [*]; done)), H', ⟨by have := HJ1.out; have := HJ4.out; have := HJ13.out; have := HJ17.out; have := HJ20.out; have := HJ24.out; first | omega | exact Nat.le_refl _⟩, zQ⟩
                      ·rw [if_neg c30] at H
                       have c30b0 : (a0 == 22) = false := beq_eq_false_iff_ne.mpr c30
                       have c30b1 : (a0 != 22) = true := bne_iff_ne.mpr c30
                       (first | rw [c30b0] | (simp only [i64_w, i32_w]; rw [c30b0]) | skip)
                       by_cases c31 : a0 = 25
                       ·rw [if_pos c31] at H
                        have c31b0 : (a0 == 25) = true := beq_iff_eq.mpr c31
                        have c31b1 : (a0 != 25) = false := bne_eq_false_iff_eq.mpr c31
                        clear c31
                        have H' := Aside0.mk H
                        clear H
                        go_wp2
                        go_meet
                        case rel => exact ⟨_, ((a0 == 25)), (by first | rfl | (simp; done) | (simp [*]; done)), H', ⟨by have := HJ1.out; have := HJ4.out; have := HJ13.out; have := HJ17.out; have := HJ20.out; have := HJ24.out; first | omega | exact Nat.le_refl _⟩, zQ⟩
                       ·rw [if_neg c31] at H
                        have c31b0 : (a0 == 25) = false := beq_eq_false_iff_ne.mpr c31
                        have c31b1 : (a0 != 25) = true := bne_iff_ne.mpr c31
                        have H' := Aside0.mk H
                        clear H
                        go_wp2
                        go_meet
                        case rel => exact ⟨_, ((a0 == 28)), (by first | rfl | (simp; done) | (simp [*]; done)), H', ⟨by have := HJ1.out; have := HJ4.out; have := HJ13.out; have := HJ17.out; have := HJ20.out; have := HJ24.out; first | omega | exact Nat.le_refl _⟩, zQ⟩
                     case rest =>
                      clear HC29
                      try clear c1
                      try clear c2
                      try clear p2
                      try clear c3
                      try clear c3b0
                      try clear c3b1
                      try clear c4
                      try clear c6
                      try clear c6b0
                      try clear c6b1
                      try clear c7
                      try clear c7b0
                      try clear c7b1
                      try clear c8
                      try clear c8b0
                      try clear c8b1
                      try clear c9
                      try clear c9b0
                      try clear c9b1
                      try clear c10
                      try clear c10b0
                      try clear c10b1
                      try clear c11
                      try clear c11b0
                      try clear c11b1
                      try clear c12
                      try clear c13
                      try clear c13b0
                      try clear c13b1
                      try clear c15
                      try clear c15b0
                      try clear c15b1
                      try clear c16
                      try clear c16b0
                      try clear c16b1
                      try clear c17
                      try clear c19
                      try clear c19b0
                      try clear c19b1
                      try clear c20
                      try clear c22
                      try clear c22b0
                      try clear c22b1
                      try clear c23
                      try clear c23b0
                      try clear c23b1
                      try clear c24
                      try clear c26
                      try clear c26b0
                      try clear c26b1
                      try clear c27
                      try clear c28
                      try clear c28b0
                      try clear c28b1
                      try clear c30
                      try clear c30b0
                      try clear c30b1
                      try clear c31
                      try clear c31b0
                      try clear c31b1
                      try clear p2
                      obtain ⟨kq, x33_28, rfl, HA, HJ28, ⟨mc28, rfl⟩⟩ := hcut
                      cases kq with
                      | zero => exact absurd HA.out (by simp [listing_parts.j6])
                      | succ kj28 =>
                       have H := HA.out
                       clear HA
                       simp only [listing_parts.j6] at H
                       by_cases c32 : x33_28 = true
                       ·subst c32
                        have H1 : (some (⟨#[97]⟩ : ByteArray)) = some r := by rw [if_pos rfl] at H; exact H
                        clear H
                        have H := H1
                        clear H1
                        obtain rfl := Option.some.inj H
                        go_wp2
                        go_ret
                        exact ⟨by first | rfl | (simp; done) | (simp [*]; done), zQ⟩
                       ·replace c32 := Bool.eq_false_iff.mpr c32
                        subst c32
                        have H1 : (if a0 = 23 then (listing_parts.j7 kj28 a0 (a0 == 23)) else (listing_parts.j7 kj28 a0 (a0 == 29))) = some r := by rw [if_neg (show ¬ (false = true) by decide)] at H; exact H
                        clear H
                        have H := H1
                        clear H1
                        have HC33 := Aside0.mk H
                        clear H
                        go_upto_if 37 with (fail)
                        go_cut [37] (fun v37 wc => ∃ (kq : Nat) (x37_32 : Bool), v37 = .bool x37_32 ∧ Aside0 (listing_parts.j7 kq a0 x37_32 = some r) ∧ Aside0 (kq ≤ kj28) ∧ Drawn0 w wc)
                        case first =>
                         have H := HC33.out
                         clear HC33
                         by_cases c34 : a0 = 23
                         ·rw [if_pos c34] at H
                          have c34b0 : (a0 == 23) = true := beq_iff_eq.mpr c34
                          have c34b1 : (a0 != 23) = false := bne_eq_false_iff_eq.mpr c34
                          clear c34
                          (first | rw [c34b0] | (simp only [i64_w, i32_w]; rw [c34b0]) | skip)
                          have H' := Aside0.mk H
                          clear H
                          go_wp2
                          go_meet
                          case rel => exact ⟨_, ((a0 == 23)), (by first | rfl | (simp; done) | (simp [*]; done)), H', ⟨by have := HJ1.out; have := HJ4.out; have := HJ13.out; have := HJ17.out; have := HJ20.out; have := HJ24.out; have := HJ28.out; first | omega | exact Nat.le_refl _⟩, zQ⟩
                         ·rw [if_neg c34] at H
                          have c34b0 : (a0 == 23) = false := beq_eq_false_iff_ne.mpr c34
                          have c34b1 : (a0 != 23) = true := bne_iff_ne.mpr c34
                          (first | rw [c34b0] | (simp only [i64_w, i32_w]; rw [c34b0]) | skip)
                          have H' := Aside0.mk H
                          clear H
                          go_wp2
                          go_meet
                          case rel => exact ⟨_, ((a0 == 29)), (by first | rfl | (simp; done) | (simp [*]; done)), H', ⟨by have := HJ1.out; have := HJ4.out; have := HJ13.out; have := HJ17.out; have := HJ20.out; have := HJ24.out; have := HJ28.out; first | omega | exact Nat.le_refl _⟩, zQ⟩
                        case rest =>
                         clear HC33
                         try clear c1
                         try clear c2
                         try clear p2
                         try clear c3
                         try clear c3b0
                         try clear c3b1
                         try clear c4
                         try clear c6
                         try clear c6b0
                         try clear c6b1
                         try clear c7
                         try clear c7b0
                         try clear c7b1
                         try clear c8
                         try clear c8b0
                         try clear c8b1
                         try clear c9
                         try clear c9b0
                         try clear c9b1
                         try clear c10
                         try clear c10b0
                         try clear c10b1
                         try clear c11
                         try clear c11b0
                         try clear c11b1
                         try clear c12
                         try clear c13
                         try clear c13b0
                         try clear c13b1
                         try clear c15
                         try clear c15b0
                         try clear c15b1
                         try clear c16
                         try clear c16b0
                         try clear c16b1
                         try clear c17
                         try clear c19
                         try clear c19b0
                         try clear c19b1
                         try clear c20
                         try clear c22
                         try clear c22b0
                         try clear c22b1
                         try clear c23
                         try clear c23b0
                         try clear c23b1
                         try clear c24
                         try clear c26
                         try clear c26b0
                         try clear c26b1
                         try clear c27
                         try clear c28
                         try clear c28b0
                         try clear c28b1
                         try clear c30
                         try clear c30b0
                         try clear c30b1
                         try clear c31
                         try clear c31b0
                         try clear c31b1
                         try clear c32
                         try clear c34
                         try clear c34b0
                         try clear c34b1
                         try clear p2
                         obtain ⟨kq, x37_32, rfl, HA, HJ32, ⟨mc32, rfl⟩⟩ := hcut
                         cases kq with
                         | zero => exact absurd HA.out (by simp [listing_parts.j7])
                         | succ kj32 =>
                          have H := HA.out
                          clear HA
                          simp only [listing_parts.j7] at H
                          by_cases c35 : x37_32 = true
                          ·subst c35
                           have H1 : (some (⟨#[110]⟩ : ByteArray)) = some r := by rw [if_pos rfl] at H; exact H
                           clear H
                           have H := H1
                           clear H1
                           obtain rfl := Option.some.inj H
                           go_wp2
                           go_ret
                           exact ⟨by first | rfl | (simp; done) | (simp [*]; done), zQ⟩
                          ·replace c35 := Bool.eq_false_iff.mpr c35
                           subst c35
                           have H1 : (if a0 = 26 then (some (⟨#[111]⟩ : ByteArray)) else (if a0 = 27 then (some (⟨#[97, 111, 116]⟩ : ByteArray)) else (some (⟨#[]⟩ : ByteArray)))) = some r := by rw [if_neg (show ¬ (false = true) by decide)] at H; exact H
                           clear H
                           have H := H1
                           clear H1
                           by_cases c36 : a0 = 26
                           ·rw [if_pos c36] at H
                            have c36b0 : (a0 == 26) = true := beq_iff_eq.mpr c36
                            have c36b1 : (a0 != 26) = false := bne_eq_false_iff_eq.mpr c36
                            clear c36
                            obtain rfl := Option.some.inj H
                            go_wp2
                            go_ret
                            exact ⟨by first | rfl | (simp; done) | (simp [*]; done), zQ⟩
                           ·rw [if_neg c36] at H
                            have c36b0 : (a0 == 26) = false := beq_eq_false_iff_ne.mpr c36
                            have c36b1 : (a0 != 26) = true := bne_iff_ne.mpr c36
                            by_cases c37 : a0 = 27
                            ·rw [if_pos c37] at H
                             have c37b0 : (a0 == 27) = true := beq_iff_eq.mpr c37
                             have c37b1 : (a0 != 27) = false := bne_eq_false_iff_eq.mpr c37
                             clear c37
                             obtain rfl := Option.some.inj H
                             go_wp2
                             go_ret
                             exact ⟨by first | rfl | (simp; done) | (simp [*]; done), zQ⟩
                            ·rw [if_neg c37] at H
                             have c37b0 : (a0 == 27) = false := beq_eq_false_iff_ne.mpr c37
                             have c37b1 : (a0 != 27) = true := bne_iff_ne.mpr c37
                             obtain rfl := Option.some.inj H
                             go_wp2
                             go_ret
                             exact ⟨by first | rfl | (simp; done) | (simp [*]; done), zQ⟩
end Go.Proofs.Ytkgjbdbhpohkiaa.PLi
end
-- from YtkgjbdbhpohkiaaHRows
section
namespace Go.Proofs.Ytkgjbdbhpohkiaa.PLi
open Go.RowKit Go.Proofs.YtkgjbdbhpohkiaaW.PrintWords Go.Proofs.YtkgjbdbhpohkiaaW.PrintLast Go.Proofs.YtkgjbdbhpohkiaaW.PrintMore Go.Proofs.Ytkgjbdbhpohkiaa.Str
set_option linter.unusedVariables false
set_option linter.unusedSimpArgs false
structure OpRow where
  w : ByteArray
  t0 : Int
  t1 : Int
  m : Int
  traps : Bool
  reads : Bool
  writes : Bool
  seen : Bool
  ends : Bool
def noRow : OpRow := ⟨mk [], 0, 0, 0, false, false, false, false, false⟩
def opRows : List OpRow := [
  ⟨mk [], 0, 0, 0, false, false, false, false, false⟩,
  ⟨mk [99, 111, 110, 115, 116], 0, 0, 1, false, false, false, false, false⟩,
  ⟨mk [97, 100, 100], 1, 1, 1, false, false, false, false, false⟩,
  ⟨mk [115, 117, 98], 1, 1, 1, false, false, false, false, false⟩,
  ⟨mk [109, 117, 108], 1, 1, 1, false, false, false, false, false⟩,
  ⟨mk [100, 105, 118], 1, 1, 1, true, false, false, false, false⟩,
  ⟨mk [108, 116], 1, 1, 1, false, false, false, false, false⟩,
  ⟨mk [101, 113], 1, 1, 1, false, false, false, false, false⟩,
  ⟨mk [110, 105, 108], 0, 0, 2, false, false, false, false, false⟩,
  ⟨mk [115, 97, 109, 101], 2, 2, 1, false, false, false, false, false⟩,
  ⟨mk [110, 101, 119], 0, 0, 2, false, false, false, false, false⟩,
  ⟨mk [108, 111, 97, 100, 46, 105], 2, 0, 1, true, true, false, false, false⟩,
  ⟨mk [108, 111, 97, 100, 46, 112], 2, 0, 2, true, true, false, false, false⟩,
  ⟨mk [115, 116, 111, 114, 101, 46, 105], 2, 1, 0, true, false, true, true, false⟩,
  ⟨mk [115, 116, 111, 114, 101, 46, 112], 2, 2, 0, true, false, true, true, false⟩,
  ⟨mk [115, 108, 111, 116], 2, 0, 3, true, false, false, false, false⟩,
  ⟨mk [103, 101, 116, 46, 105], 3, 0, 1, true, true, false, false, false⟩,
  ⟨mk [103, 101, 116, 46, 112], 3, 0, 2, true, true, false, false, false⟩,
  ⟨mk [112, 117, 116, 46, 105], 3, 1, 0, true, false, true, true, false⟩,
  ⟨mk [112, 117, 116, 46, 112], 3, 2, 0, true, false, true, true, false⟩,
  ⟨mk [112, 104, 105], 0, 0, 0, false, false, false, false, false⟩,
  ⟨mk [99, 97, 108, 108], 0, 0, 0, true, true, true, true, false⟩,
  ⟨mk [111, 117, 116], 1, 0, 0, false, false, false, true, false⟩,
  ⟨mk [112, 111, 108, 108], 0, 0, 0, false, false, false, true, false⟩,
  ⟨mk [114, 101, 108, 111, 99], 0, 0, 0, false, false, false, false, false⟩,
  ⟨mk [109, 97, 114, 107], 2, 0, 0, false, false, false, true, false⟩,
  ⟨mk [98, 114], 0, 0, 0, false, false, false, true, true⟩,
  ⟨mk [105, 102], 1, 0, 0, false, false, false, true, true⟩,
  ⟨mk [114, 101, 116], 0, 0, 0, false, false, false, true, true⟩,
  ⟨mk [102, 97, 105, 108], 0, 0, 0, true, false, false, true, true⟩]
def rowCells (r : OpRow) : List Value := [.string r.w, .int .i64 r.t0, .int .i64 r.t1, .int .i64 r.m, .bool r.traps, .bool r.reads, .bool r.writes, .bool r.seen, .bool r.ends]
def rowsV : Array Value := (opRows.flatMap rowCells).toArray
def zerosV : Array Value := ((List.replicate 30 noRow).flatMap rowCells).toArray
theorem wpList_buildTo1 {P : Program} {ops : Array Oper} {rest : List Oper} {o : Oper} {a : Act} {w : World} {Q : Exit → Act → World → Prop} (hg : o.guard = none) (t : TypeId) (parts : Array (Nat × Operand)) (ho : o.op = .build t parts) (cells : Array Value)
    (hf : P.built t (parts.map fun (i, x) => (i, a.eval x)).toList = some cells)
    (h : wpList P ops Q rest (a.put o.dst (.agg cells)) w) : wpList P ops Q (o :: rest) a w := by
  refine wpList_build hg t parts ho ?_ ?_
  · rw [hf]; rfl
  · rw [hf]; exact h
theorem wpList_store_newR {P : Program} {ops : Array Oper} {rest : List Oper} {o : Oper} {a : Act} {w : World} {Q : Exit → Act → World → Prop} (hgd : o.guard = none) (ty : TypeId) (x y : Operand) (ho : o.op = .store ty x y)
    (old cells : Array Value) (hx : a.eval x = .pointer (some ⟨w.heap.size, 0, none⟩)) (hy : a.eval y = .agg cells)
    (t : TypeId) (hi : (P.info? ty).map (·.size) = some cells.size) (hold : old.size = cells.size) (h1 : cells.all (·.oneCell') = true)
    (h : wpList P ops Q rest (a.put o.dst undef) (w.alloc (.cells cells t))) : wpList P ops Q (o :: rest) a (w.alloc (.cells old t)) := by
  refine wpList_store_row hgd ty x y ho w.heap.size cells hx hy t old (heap_alloc_last _ _) hi hold h1 ?_
  rw [World.setRow_alloc_new]
  exact h
set_option maxHeartbeats 4000000 in
set_option maxRecDepth 100000 in
theorem ops_rows.calls (w : World) : Calls Try.prog 76 #[] w fun e w' => e = .returned (.agg rowsV) ∧ Below w.heap.size w w' := by
  have hz := (zero_of_info (P := Try.prog) (t := 98) (v := .agg zerosV) (n := 270) (by kernel_rfl)).1
  go_enter Try.func76, Try.ntmps76
  go_wp2_with (first | ((with_reducible refine gate_dst (N := 49) rfl ?_); refine wpList_buildTo1 rfl 98 _ rfl rowsV (by kernel_rfl) ?_) | ((with_reducible refine gate_store (t := 98) (p := 0) (v := .tmp 49) rfl ?_); refine wpList_store_newR rfl 98 (.tmp 0) (.tmp 49) rfl zerosV rowsV rfl rfl 98 (by kernel_rfl) (by kernel_rfl) (by kernel_rfl) ?_))
  refine bodyPost_ret (results_single rfl (Vals.cell w.heap.size 98 rowsV (0, 0) _ rfl (blk_new w _) Try.underlying98 rfl (by kernel_rfl) Vals.nil)) rfl ⟨rfl, below_alloc (Below.refl _ _) _⟩
end Go.Proofs.Ytkgjbdbhpohkiaa.PLi
end
-- from YtkgjbdbhpohkiaaHOf
section
namespace Go.Proofs.Ytkgjbdbhpohkiaa.PLi
open Go.RowKit Go.Proofs.YtkgjbdbhpohkiaaW.PrintWords Go.Proofs.YtkgjbdbhpohkiaaW.PrintLast Go.Proofs.YtkgjbdbhpohkiaaW.PrintMore Go.Proofs.Ytkgjbdbhpohkiaa.Str
set_option linter.unusedVariables false
set_option linter.unusedSimpArgs false
theorem run_index_rows (n : Nat) (hn : n < 30) (w : World) : (Instr.index 98 (.agg rowsV) (.int .i64 n)).run Try.prog w = .ok (.agg (rowCells (opRows.getD n noRow)).toArray) w := by
  have h : n = 0 ∨ n = 1 ∨ n = 2 ∨ n = 3 ∨ n = 4 ∨ n = 5 ∨ n = 6 ∨ n = 7 ∨ n = 8 ∨ n = 9 ∨ n = 10 ∨ n = 11 ∨ n = 12 ∨ n = 13 ∨ n = 14 ∨ n = 15 ∨ n = 16 ∨ n = 17 ∨ n = 18 ∨ n = 19 ∨ n = 20 ∨ n = 21 ∨ n = 22 ∨ n = 23 ∨ n = 24 ∨ n = 25 ∨ n = 26 ∨ n = 27 ∨ n = 28 ∨ n = 29 := by omega
  rcases h with rfl | rfl | rfl | rfl | rfl | rfl | rfl | rfl | rfl | rfl | rfl | rfl | rfl | rfl | rfl | rfl | rfl | rfl | rfl | rfl | rfl | rfl | rfl | rfl | rfl | rfl | rfl | rfl | rfl | rfl <;> (show _ = _; kernel_rfl)
def opOf (op : Int) : OpRow := if op < 1 ∨ 29 < op then noRow else opRows.getD op.toNat noRow
def ops_of.f (a0 : Int) : Option (ByteArray × Int × Int × Int × Bool × Bool × Bool × Bool × Bool) :=
  some ((opOf a0).w, (opOf a0).t0, (opOf a0).t1, (opOf a0).m, (opOf a0).traps, (opOf a0).reads, (opOf a0).writes, (opOf a0).seen, (opOf a0).ends)
set_option maxHeartbeats 4000000 in
set_option maxRecDepth 100000 in
theorem of_calls (a0 : Int) (w : World) : Calls Try.prog 45 #[.int .i64 a0] w fun e w' => e = .returned (.agg (rowCells (opOf a0)).toArray) ∧ Below w.heap.size w w' := by
  by_cases h1 : a0 < 1
  · have d1 : decide (a0 < 1) = true := decide_eq_true h1
    have e : opOf a0 = noRow := if_pos (.inl h1)
    rw [e]
    clear e h1
    go_enter Try.func45, Try.ntmps45
    go_wp2
    refine bodyPost_ret (results_single rfl (Vals.cell w.heap.size 77 (rowCells noRow).toArray (0, 0) _ rfl (blk_new w _) Try.underlying77 rfl (by kernel_rfl) Vals.nil)) rfl ⟨rfl, below_alloc (Below.refl _ _) _⟩
  · have d1 : decide (a0 < 1) = false := decide_eq_false h1
    by_cases h2 : 29 < a0
    · have d2 : decide (29 < a0) = true := decide_eq_true h2
      have e : opOf a0 = noRow := if_pos (.inr h2)
      rw [e]
      clear e h1 h2
      go_enter Try.func45, Try.ntmps45
      go_wp2
      refine bodyPost_ret (results_single rfl (Vals.cell w.heap.size 77 (rowCells noRow).toArray (0, 0) _ rfl (blk_new w _) Try.underlying77 rfl (by kernel_rfl) Vals.nil)) rfl ⟨rfl, below_alloc (Below.refl _ _) _⟩
    · have d2 : decide (29 < a0) = false := decide_eq_false h2
      obtain ⟨n, rfl⟩ : ∃ n : Nat, a0 = n := ⟨a0.toNat, by omega⟩
      have hn : n < 30 := by omega
      obtain ⟨r, hr⟩ : ∃ r, opRows.getD n noRow = r := ⟨_, rfl⟩
      have hix : ∀ W, (Instr.index 98 (.agg rowsV) (.int .i64 n)).run Try.prog W = .ok (.agg (rowCells r).toArray) W := fun W => hr ▸ run_index_rows n hn W
      have e : opOf (n : Int) = opRows.getD n noRow := if_neg (by omega)
      rw [e, hr]
      clear e h1 h2 hr
      go_enter Try.func45, Try.ntmps45
      go_wp2_with fail
      refine (ops_rows.calls _).mono ?_
      rintro e w1 ⟨rfl, hb⟩
      have HB := Aside0.mk hb
      have h1 := blk_below (blk_new w (.cells #[.string ⟨#[]⟩, .int .i64 0, .int .i64 0, .int .i64 0, .bool false, .bool false, .bool false, .bool false, .bool false] 77)) hb
      have H1 := Aside0.mk h1
      have HB := Aside0.mk (below_step (below_alloc (Below.refl _ _) _) hb)
      clear h1 hb
      go_wp2_with (first | ((with_reducible refine gate_store (t := 77) (p := 2) (v := .tmp 12) rfl ?_); refine wpList_store_row rfl 77 (.tmp 2) (.tmp 12) rfl w.heap.size (rowCells r).toArray rfl rfl 77 _ H1.out (by kernel_rfl) rfl (by simp [rowCells, Value.oneCell']) ?_))
      refine bodyPost_ret (results_single rfl (Vals.cell w.heap.size 77 (rowCells r).toArray (0, 0) _ rfl (setRow_heap _ _ _ _ _ _ H1.out) Try.underlying77 rfl (by kernel_rfl) Vals.nil)) rfl ⟨rfl, below_setRow HB.out (Nat.le_refl _) _⟩
theorem ops_of.calls (a0 : Int) (r1 : ByteArray) (r2 r3 r4 : Int) (r5 r6 r7 r8 r9 : Bool) (w : World) (h : ops_of.f a0 = some (r1, r2, r3, r4, r5, r6, r7, r8, r9)) :
    Calls Try.prog 45 #[.int .i64 a0] w fun e w' => e = .returned (.agg #[.string r1, .int .i64 r2, .int .i64 r3, .int .i64 r4, .bool r5, .bool r6, .bool r7, .bool r8, .bool r9]) ∧ Below w.heap.size w w' := by
  have h0 := Option.some.inj h
  simp only [Prod.mk.injEq] at h0
  obtain ⟨rfl, rfl, rfl, rfl, rfl, rfl, rfl, rfl, rfl⟩ := h0
  exact of_calls a0 w
end Go.Proofs.Ytkgjbdbhpohkiaa.PLi
end
