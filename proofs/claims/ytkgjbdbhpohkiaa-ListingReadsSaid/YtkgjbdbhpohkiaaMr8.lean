import Derived.Shelf.Strings.OnBuilder
import Derived.Shelf.Strings.BuilderK
import Derived.Test.YtkgjbdbhpohkiaaProg
import Derived.Test.YtkgjbdbhpohkiaaMr7
import Derived.Test.YtkgjbdbhpohkiaaMr2
import Derived.Test.YtkgjbdbhpohkiaaMr6
import Derived.Test.YtkgjbdbhpohkiaaMr5
-- from YtkgjbdbhpohkiaaHStrs
section
namespace Go.Proofs.Ytkgjbdbhpohkiaa.PLi
open Go.Shelf Go.RowKit Go.Proofs.YtkgjbdbhpohkiaaW.PrintWords Go.Proofs.Ytkgjbdbhpohkiaa.Str
set_option linter.unusedVariables false
def lays156_ren : Go.Shelf.Ren := ⟨fun | 156 => 28 | 165 => 51 | 166 => 34 | 169 => 35 | 240 => 52 | 241 => 77 | 276 => 78 | 277 => 95 | n => n, fun | 31 => 49 | 9 => 9 | 3 => 3 | 4 => 4 | 0 => 0 | 20 => 20 | 72 => 56 | 76 => 59 | 70 => 53 | 37 => 54 | 75 => 58 | 127 => 82 | 164 => 100 | 5 => 5 | 80 => 61 | n => n, fun | n => n⟩
theorem lays156 : Go.Proofs.Lays.n156 Try.prog lays156_ren := {
 mixed := by kernel_rfl
 f156 := Try.func28.trans (congrArg some (by kernel_rfl))
 f165 := Try.func51.trans (congrArg some (by kernel_rfl))
 f166 := Try.func34.trans (congrArg some (by kernel_rfl))
 f169 := Try.func35.trans (congrArg some (by kernel_rfl))
 f240 := Try.func52.trans (congrArg some (by kernel_rfl))
 f241 := Try.func77.trans (congrArg some (by kernel_rfl))
 f276 := Try.func78.trans (congrArg some (by kernel_rfl))
 f277 := Try.func95.trans (congrArg some (by kernel_rfl))
 t0 := Try.underlying0
 a0 := Try.isAgg0
 z0 := Try.sizeOf0
 v0 := Try.zeroValue0
 t3 := Try.underlying3
 a3 := Try.isAgg3
 z3 := Try.sizeOf3
 v3 := Try.zeroValue3
 t4 := Try.underlying4
 a4 := Try.isAgg4
 z4 := Try.sizeOf4
 v4 := Try.zeroValue4
 t9 := Try.underlying9
 a9 := Try.isAgg9
 z9 := Try.sizeOf9
 v9 := Try.zeroValue9
 t20 := Try.underlying20
 a20 := Try.isAgg20
 z20 := Try.sizeOf20
 v20 := Try.zeroValue20
 t31 := Try.underlying49
 a31 := Try.isAgg49
 z31 := Try.sizeOf49
 v31 := Try.zeroValue49
 t37 := Try.underlying54
 a37 := Try.isAgg54
 z37 := Try.sizeOf54
 v37 := Try.zeroValue54
 t70 := Try.underlying53
 a70 := Try.isAgg53
 z70 := Try.sizeOf53
 v70 := Try.zeroValue53
 t72 := Try.underlying56
 a72 := Try.isAgg56
 z72 := Try.sizeOf56
 v72 := Try.zeroValue56
 t75 := Try.underlying58
 a75 := Try.isAgg58
 z75 := Try.sizeOf58
 v75 := Try.zeroValue58
 t76 := Try.underlying59
 a76 := Try.isAgg59
 z76 := Try.sizeOf59
 v76 := Try.zeroValue59
 t127 := Try.underlying82
 a127 := Try.isAgg82
 z127 := Try.sizeOf82
 v127 := Try.zeroValue82
 t164 := Try.underlying100
 a164 := Try.isAgg100
 z164 := Try.sizeOf100
 v164 := Try.zeroValue100 }
theorem builder_Extra : Builder.Extra Try.prog lays156_ren := {
 sizeBuilder := by kernel_rfl
 liesBuilder := by kernel_rfl
 t5 := Try.underlying5
 a5 := Try.isAgg5
 z5 := Try.sizeOf5
 v5 := Try.zeroValue5
 infoByte := by kernel_rfl
 cellsByte := by kernel_rfl
 sizeByte := by kernel_rfl
 neB5 := by decide }
def joinB (l : List ByteArray) (sep : ByteArray) : ByteArray := ⟨(Lib.join (l.map (·.data.toList)) sep.data.toList).toArray⟩
def strings_Join.f (l : List ByteArray) (sep : ByteArray) : Option ByteArray := if l.length ≤ 140737488355328 ∧ (joinB l sep).size ≤ 140737488355328 then some (joinB l sep) else none
theorem ad_spot {w : World} {ad : Addr} {u : Value} (h : w.cell? (ad.add 0) = some u) : ad = ⟨ad.block, ad.off, none⟩ ∧ ad.block < w.heap.size := by
 have h0 : ad.add 0 = ad := by unfold Addr.add; rfl
 rw [h0] at h
 have hb : ad.block < w.heap.size := World.block_lt_of_cell? w ad h
 refine ⟨?_, hb⟩
 obtain ⟨b, o, s⟩ := ad
 cases s with
 | none => rfl
 | some s =>
  exfalso
  unfold World.cell? at h
  split at h
  ·simp at h
  ·cases h
theorem strings_Join.calls (A0 : Option Addr) (c0 : Nat) (l : List ByteArray) (sep : ByteArray) (r : ByteArray) (w : World) (hr0 : Kd.C Kd.string w A0 l.length l) (hc0 : l.length ≤ c0) (h : strings_Join.f l sep = some r) :
  Calls Try.prog 28 #[.slice A0 l.length c0, .string sep] w fun e w' => e = .returned (.string r) ∧ Below w.heap.size w w' := by
 unfold strings_Join.f at h
 by_cases hg : l.length ≤ 140737488355328 ∧ (joinB l sep).size ≤ 140737488355328
 rotate_left
 ·rw [if_neg hg] at h
  cases h
 rw [if_pos hg] at h
 obtain rfl := Option.some.inj h
 match l, hr0, hc0, hg with
 | [], _, _, _ => exact (Any.strings_Join_none lays156 builder_Extra A0 c0 sep w).mono fun e w' ⟨he, hw⟩ => ⟨he, hw ▸ Below.refl _ _⟩
 | x :: l, hr0, hc0, hg =>
  have hcell : ∀ j : Nat, j < (x :: l).length → ∃ ad, A0 = some ad ∧ w.cell? (ad.add j) = some (.string ((x :: l).getD j ByteArray.empty)) := fun j hj => by
   obtain ⟨ad, e, hc⟩ := Kd.at_string hr0 j (by omega) (by omega)
   rw [Int.toNat_natCast] at hc
   exact ⟨ad, e, by rw [hc]; unfold rdOf; rw [Int.toNat_natCast]⟩
  obtain ⟨ad, rfl, h0⟩ := hcell 0 (by simp)
  obtain ⟨he, hb⟩ := ad_spot h0
  obtain ⟨bk, o, sp⟩ := ad
  obtain rfl : sp = none := congrArg Addr.spot he
  exact Any.strings_Join lays156 builder_Extra bk o c0 (x :: l) sep w (fun j y hj => by
   have hj2 := (List.getElem?_eq_some_iff.1 hj).1
   obtain ⟨ad, e, hc⟩ := hcell j hj2
   cases e
   rw [add_at] at hc
   rw [hc, List.getD_eq_getElem?_getD, hj]
   rfl) hb hg.1 hc0 (by have := hg.2; unfold joinB at this; rw [mk_size] at this; exact this)
theorem builder_Write (B b : Nat) (bs : List Value) (s : ByteArray) (w : World) (h : Lib.IsBuilderF 56 5 B b bs w) (hlen : bs.length + s.size ≤ 140737488355328) (hBw : B ≤ w.heap.size) :
  Calls Try.prog 34 #[.pointer (some ⟨b, 0, none⟩), .string s] w fun e w' => e = .returned (.tuple #[.int .i64 s.size, .nilIface]) ∧ Lib.IsBuilderF 56 5 B b (bs ++ Lib.strCells s) w' ∧ Below B w w' ∧ Lib.OthersKept 5 (some b) w w' :=
 (Any.Builder_WriteString_k { lays156 with } builder_Extra B b bs s w h hlen hBw).mono fun e w' ⟨h1, h2, h3⟩ => ⟨h1, .inr h2, h3⟩
theorem builder_String (B b : Nat) (l : List UInt8) (w : World) (h : Lib.IsBuilderF 56 5 B b (Lib.byteCells l) w) (hBw : B ≤ w.heap.size) :
  Calls Try.prog 35 #[.pointer (some ⟨b, 0, none⟩)] w fun e w' => e = .returned (.string ⟨l.toArray⟩) ∧ Below B w w' :=
 (Any.Builder_String_any_k { lays156 with } builder_Extra B b l w h hBw).mono fun e w' ⟨h1, h2, h3, h4⟩ => ⟨h1, h3⟩
end Go.Proofs.Ytkgjbdbhpohkiaa.PLi
end
-- from YtkgjbdbhpohkiaaPLix8
section
namespace Go.Proofs.Ytkgjbdbhpohkiaa.PLi
open Go.RowKit Go.Proofs.YtkgjbdbhpohkiaaW.PrintWords Go.Proofs.YtkgjbdbhpohkiaaW.PrintLast Go.Proofs.YtkgjbdbhpohkiaaW.PrintMore Go.Proofs.Ytkgjbdbhpohkiaa.Zip
attribute [local go_sem] max2_int min2_int max_two min_two max_three min_three max_four min_four   -- for this text's walks alone
set_option linter.unusedVariables false
set_option linter.unusedSimpArgs false
def listing_list.l0 : Nat → List ByteArray → List Int → Int → Int → Option (ByteArray)
 | 0, _, _, _, _ => none
 | k + 1, x3, x6, x7, x8 => if x8 < x7 then (if 0 ≤ x8 then (if x8 < (x6.length : Int) then ((listing_slot.f (rd x6 x8)).bind fun t133 => (if x3.length < 8796093022208 then (listing_list.l0 k (x3 ++ [t133]) x6 x7 (wrap64 (x8 + 1))) else (none))) else (none)) else (none)) else ((strings_Join.f x3 (⟨#[32]⟩ : ByteArray)).bind fun t137 => (if 1 + t137.size ≤ 9223372036854775807 then (if ((⟨#[40]⟩ : ByteArray) ++ t137).size + 1 ≤ 9223372036854775807 then (some (((⟨#[40]⟩ : ByteArray) ++ t137) ++ (⟨#[41]⟩ : ByteArray))) else (none)) else (none)))
def listing_list.f (k : Nat) (l0 : List Int) : Option (ByteArray) := listing_list.l0 k ([] : List ByteArray) l0 (l0.length : Int) 0
set_option maxHeartbeats 8000000 in
set_option maxRecDepth 100000 in
theorem listing_list.calls (k : Nat) (A0 : Option Addr) (c0 : Nat) (l0 : List Int) (r : ByteArray) (w : World) (hr0 : Kd.C (Kd.int .i64) w A0 l0.length l0) (hc0 : l0.length ≤ c0) (h : listing_list.f k l0 = some r) :
  Calls Try.prog 27 #[.slice A0 l0.length c0] w fun e w' => e = .returned (.string r) ∧ Below w.heap.size w w' := by
 have HR0 := Aside0.mk hr0
 have HC0 := Aside0.mk hc0
 clear hr0 hc0
 have HB := Aside0.mk (Below.refl w.heap.size w)
 have H : (listing_list.l0 k ([] : List ByteArray) l0 (l0.length : Int) 0) = some r := h
 clear h
 have H' := Aside0.mk H
 clear H
 go_enter Try.func27, Try.ntmps27
 go_wp2
 go_loopg [3, 8] k (fun kq v3 v8 w' => ∃ (x3_1 : List ByteArray) (x8_1 : Int), v8 = .int .i64 x8_1 ∧ Aside0 (listing_list.l0 kq x3_1 l0 (l0.length : Int) x8_1 = some r) ∧ Aside0 (kq ≤ k) ∧ Aside0 (Kd.R Kd.string 9 w' w.heap.size (fun _ => True) v3 x3_1) ∧ Aside0 (Below w.heap.size w w'))
 case atStart => exact ⟨(([] : List ByteArray)), (0), (by first | rfl | (simp; done) | (simp [*]; done)), H', ⟨Nat.le_refl _⟩, ⟨by first | exact Kd.R_nil _ _ _ _ _ | exact Kd.N_nil _ _ _ _ _ | exact Kd.V_nil _ _ _ _ _ | exact Kd.Q_nil _ _ _ _ _ | exact Kd.S_nil _ _ _ _ _⟩, ⟨zB HB.out⟩⟩
 case round =>
  clear H'
  obtain ⟨x3_1, x8_1, rfl, HA, HK1, HO_3, HB⟩ := hrel
  cases gk with
  | zero => exact absurd HA.out (by simp [listing_list.l0])
  | succ k1 =>
   have H := HA.out
   clear HA
   simp only [listing_list.l0] at H
   by_cases c2 : x8_1 < (l0.length : Int)
   ·rw [if_pos c2] at H
    have c2b0 : decide (x8_1 < (l0.length : Int)) = true := decide_eq_true c2
    clear c2
    by_cases c3 : 0 ≤ x8_1
    ·rw [if_pos c3] at H
     have c3b0 : decide (0 ≤ x8_1) = true := decide_eq_true c3
     clear c3
     by_cases c4 : x8_1 < (l0.length : Int)
     ·rw [if_pos c4] at H
      have c4b0 : decide (x8_1 < (l0.length : Int)) = true := decide_eq_true c4
      clear c4
      replace H := Option.bind_eq_some_iff.mp H
      obtain ⟨t133, A50, H⟩ := H
      replace H : (if x3_1.length < 8796093022208 then (listing_list.l0 k1 (x3_1 ++ [t133]) l0 (l0.length : Int) (wrap64 (x8_1 + 1))) else (none)) = some r := H
      have A5 := Aside0.mk A50
      clear A50
      by_cases c6 : x3_1.length < 8796093022208
      ·rw [if_pos c6] at H
       have LMc6 := Aside0.mk c6
       clear c6
       obtain ⟨y134, hy134⟩ : ∃ y_ : List ByteArray, y_ = (x3_1 ++ [t133]) := ⟨_, rfl⟩
       replace H : (listing_list.l0 k1 y134 l0 (l0.length : Int) (wrap64 (x8_1 + 1))) = some r := by first | (rw [hy134]; with_reducible exact H) | (have H2_ := (Option.bind_some _ _).symm.trans H; rw [hy134]; with_reducible exact H2_) | (have H2_ := (Option.bind_some _ _).symm.trans H; with_reducible exact H2_) | with_reducible exact H | (rw [hy134]; exact H) | exact H
       have Ny134 := Aside0.mk hy134
       clear hy134
       have H' := Aside0.mk H
       clear H
       have p132 : 0 ≤ (x8_1 : Int) := of_decide_eq_true zS
       have q132 : x8_1 < (l0.length : Int) := of_decide_eq_true zS
       obtain ⟨ad132, e132, hx132_0⟩ := Kd.at_int HR0.out x8_1 p132 q132
       cases e132
       replace hx132_0 := (HB.out.cell (World.block_lt_of_cell? w _ hx132_0)).trans hx132_0
       replace p132 := eq_true p132
       replace q132 := eq_true q132
       go_wp2_with (first | ((with_reducible refine gate_callee (f := 24) rfl ?_); refine goesL_ (some 14) rfl rfl Try.func24 (by kernel_rfl) rfl #[.int .i64 (rd l0 x8_1)] rfl zA ?_; (with_reducible refine (listing_slot.calls (rd l0 x8_1) t133 _ A5.out).mono ?_); rintro e w7 ⟨rfl, hb⟩; refine ⟨_, rfl, ?_⟩; have n0_ := Aside0.mk (Kd.R_below (zR HO_3.out) hb); have n1_ := Aside0.mk (below_step (zB HB.out) hb); clear HO_3; clear HB; have HO_3 := n0_; have HB := n1_; clear n0_ n1_; (try clear hb); (try clear hb2); (try clear hk); (try clear hi)) | ((with_reducible refine gate_builtin (b := .append) (xs := #[.tmp 12, .tmp 15]) rfl ?_); at_builtin; refine Kd.R_append Kd.string (w0 := w) w.heap.size rfl (.tmp 12) (.tmp 15) 49 9 (.string ⟨#[]⟩) 16 rfl Try.underlying49 info9 rfl (by decide) (by omega) u3 x3_1 t133 [.string t133] (fun _ => True) (fun _ => False) rfl rfl ?aP (fun _ hk => hk.elim) ?aF ?aO ?aB ?aS ?aL ?_; (case aP => exact rfl); (case aB => exact (zB HB.out)); (case aF => exact (fun _ _ => trivial)); (case aO => exact (zR HO_3.out)); (case aS => exact (below_size (zB HB.out))); (case aL => have := LMc6.out; omega); intro v135 w8 ho hb hg hat; rw [← Ny134.out] at ho; have n0_ := Aside0.mk (hb); have n1_ := Aside0.mk (ho); clear HB; clear HO_3; have HB := n0_; have HO136 := n1_; clear n0_ n1_; clear ho hb hg hat))
       go_roundg k1
       case measure => have := HK1.out; omega
       case rel => exact ⟨(y134), (wrap64 (x8_1 + 1)), (by first | rfl | (simp; done) | (simp [*]; done)), H', ⟨by have := HK1.out; omega⟩, ⟨zR HO136.out⟩, ⟨zB HB.out⟩⟩
      ·rw [if_neg c6] at H
       exact absurd H (by simp)
     ·rw [if_neg c4] at H
      exact absurd H (by simp)
    ·rw [if_neg c3] at H
     exact absurd H (by simp)
   ·rw [if_neg c2] at H
    have c2b0 : decide (x8_1 < (l0.length : Int)) = false := decide_eq_false c2
    clear c2
    replace H := Option.bind_eq_some_iff.mp H
    obtain ⟨t137, A90, H⟩ := H
    replace H : (if 1 + t137.size ≤ 9223372036854775807 then (if ((⟨#[40]⟩ : ByteArray) ++ t137).size + 1 ≤ 9223372036854775807 then (some (((⟨#[40]⟩ : ByteArray) ++ t137) ++ (⟨#[41]⟩ : ByteArray))) else (none)) else (none)) = some r := H
    have A9 := Aside0.mk A90
    clear A90
    by_cases c10 : 1 + t137.size ≤ 9223372036854775807
    ·rw [if_pos c10] at H
     have c10b0 := eq_true c10
     have c10b1 : decide (1 + t137.size ≤ 9223372036854775807) = true := decide_eq_true c10
     try have c10b2 : (9223372036854775807 < 1 + t137.size) = False := eq_false (Nat.not_lt.2 c10)
     by_cases c11 : ((⟨#[40]⟩ : ByteArray) ++ t137).size + 1 ≤ 9223372036854775807
     ·rw [if_pos c11] at H
      have c11b0 := eq_true c11
      have c11b1 : decide (((⟨#[40]⟩ : ByteArray) ++ t137).size + 1 ≤ 9223372036854775807) = true := decide_eq_true c11
      try have c11b2 : (9223372036854775807 < ((⟨#[40]⟩ : ByteArray) ++ t137).size + 1) = False := eq_false (Nat.not_lt.2 c11)
      try (have c11b3 := c11b2; simp only [ByteArray.size_append, show ((⟨#[40]⟩ : ByteArray)).size = 1 from rfl] at c11b3)
      obtain rfl := Option.some.inj H
      obtain ⟨Ao12, co12, eo12⟩ := Kd.R_slice HO_3.out
      subst eo12
      go_wp2_with (first | ((with_reducible refine gate_callee (f := 28) rfl ?_); refine goesL_ (some 19) rfl rfl Try.func28 (by kernel_rfl) rfl #[.slice Ao12 x3_1.length co12, .string (⟨#[32]⟩ : ByteArray)] rfl zA ?_; (with_reducible refine (strings_Join.calls _ _ x3_1 (⟨#[32]⟩ : ByteArray) t137 _ ?side1 ?side2 A9.out).mono ?_); (case side1 => repeat (first | exact (Kd.R_reads' HO_3.out).2.2 | (with_reducible refine Kd.C_alloc ?_ _) | (with_reducible refine Kd.C_drewN ?_ _) | (with_reducible refine Kd.C_drew ?_))); (case side2 => exact (Kd.R_reads' HO_3.out).2.1); rintro e w13 ⟨rfl, hb⟩; refine ⟨_, rfl, ?_⟩; have n0_ := Aside0.mk (Kd.R_below (zR HO_3.out) hb); have n1_ := Aside0.mk (below_step (zB HB.out) hb); clear HO_3; clear HB; have HO_3 := n0_; have HB := n1_; clear n0_ n1_; (try clear hb); (try clear hb2); (try clear hk); (try clear hi)))
      go_ret
      exact ⟨zF, zB HB.out⟩
     ·rw [if_neg c11] at H
      exact absurd H (by simp)
    ·rw [if_neg c10] at H
     exact absurd H (by simp)
end Go.Proofs.Ytkgjbdbhpohkiaa.PLi
end
-- from YtkgjbdbhpohkiaaPLix6
section
namespace Go.Proofs.Ytkgjbdbhpohkiaa.PLi
open Go.RowKit Go.Proofs.YtkgjbdbhpohkiaaW.PrintWords Go.Proofs.YtkgjbdbhpohkiaaW.PrintLast Go.Proofs.YtkgjbdbhpohkiaaW.PrintMore Go.Proofs.Ytkgjbdbhpohkiaa.Zip
attribute [local go_sem] max2_int min2_int max_two min_two max_three min_three max_four min_four   -- for this text's walks alone
set_option linter.unusedVariables false
set_option linter.unusedSimpArgs false
mutual
def listing_parts.j0 : Nat → Int → Bool → Option (ByteArray)
 | 0, _, _ => none
 | k + 1, x3, x4 => if x4 = true then (some (⟨#[100, 110]⟩ : ByteArray)) else (if x3 = 2 then (listing_parts.j1 k x3 (x3 == 2)) else (if x3 = 3 then (listing_parts.j1 k x3 (x3 == 3)) else (if x3 = 4 then (listing_parts.j1 k x3 (x3 == 4)) else (if x3 = 5 then (listing_parts.j1 k x3 (x3 == 5)) else (if x3 = 6 then (listing_parts.j1 k x3 (x3 == 6)) else (if x3 = 7 then (listing_parts.j1 k x3 (x3 == 7)) else (listing_parts.j1 k x3 (x3 == 9))))))))
def listing_parts.j1 : Nat → Int → Bool → Option (ByteArray)
 | 0, _, _ => none
 | k + 1, x3, x7 => if x7 = true then (some (⟨#[100, 97, 98]⟩ : ByteArray)) else (if x3 = 8 then (some (⟨#[100]⟩ : ByteArray)) else (if x3 = 11 then (listing_parts.j2 k x3 (x3 == 11)) else (if x3 = 12 then (listing_parts.j2 k x3 (x3 == 12)) else (listing_parts.j2 k x3 (x3 == 15)))))
def listing_parts.j2 : Nat → Int → Bool → Option (ByteArray)
 | 0, _, _ => none
 | k + 1, x3, x17 => if x17 = true then (some (⟨#[100, 97, 110]⟩ : ByteArray)) else (if x3 = 13 then (listing_parts.j3 k x3 (x3 == 13)) else (listing_parts.j3 k x3 (x3 == 14)))
def listing_parts.j3 : Nat → Int → Bool → Option (ByteArray)
 | 0, _, _ => none
 | k + 1, x3, x21 => if x21 = true then (some (⟨#[97, 98, 110]⟩ : ByteArray)) else (if x3 = 16 then (listing_parts.j4 k x3 (x3 == 16)) else (if x3 = 17 then (listing_parts.j4 k x3 (x3 == 17)) else (listing_parts.j4 k x3 (x3 == 30))))
def listing_parts.j4 : Nat → Int → Bool → Option (ByteArray)
 | 0, _, _ => none
 | k + 1, x3, x24 => if x24 = true then (some (⟨#[100, 97]⟩ : ByteArray)) else (if x3 = 18 then (listing_parts.j5 k x3 (x3 == 18)) else (listing_parts.j5 k x3 (x3 == 19)))
def listing_parts.j5 : Nat → Int → Bool → Option (ByteArray)
 | 0, _, _ => none
 | k + 1, x3, x28 => if x28 = true then (some (⟨#[97, 98]⟩ : ByteArray)) else (if x3 = 21 then (some (⟨#[100, 102, 110, 108]⟩ : ByteArray)) else (if x3 = 22 then (listing_parts.j6 k x3 (x3 == 22)) else (if x3 = 25 then (listing_parts.j6 k x3 (x3 == 25)) else (listing_parts.j6 k x3 (x3 == 28)))))
def listing_parts.j6 : Nat → Int → Bool → Option (ByteArray)
 | 0, _, _ => none
 | k + 1, x3, x33 => if x33 = true then (some (⟨#[97]⟩ : ByteArray)) else (if x3 = 23 then (listing_parts.j7 k x3 (x3 == 23)) else (listing_parts.j7 k x3 (x3 == 29)))
def listing_parts.j7 : Nat → Int → Bool → Option (ByteArray)
 | 0, _, _ => none
 | k + 1, x3, x37 => if x37 = true then (some (⟨#[110]⟩ : ByteArray)) else (if x3 = 26 then (some (⟨#[111]⟩ : ByteArray)) else (if x3 = 27 then (some (⟨#[97, 111, 116]⟩ : ByteArray)) else (some (⟨#[]⟩ : ByteArray))))
end
def listing_parts.f (k : Nat) (a0 : Int) : Option (ByteArray) := if a0 = 1 then (listing_parts.j0 k a0 (a0 == 1)) else (listing_parts.j0 k a0 (a0 == 10))
theorem listing_parts.mono_l : ∀ k, (∀ y0 y1, LeO (listing_parts.j0 k y0 y1) (listing_parts.j0 (k + 1) y0 y1)) ∧ (∀ y0 y1, LeO (listing_parts.j1 k y0 y1) (listing_parts.j1 (k + 1) y0 y1)) ∧ (∀ y0 y1, LeO (listing_parts.j2 k y0 y1) (listing_parts.j2 (k + 1) y0 y1)) ∧ (∀ y0 y1, LeO (listing_parts.j3 k y0 y1) (listing_parts.j3 (k + 1) y0 y1)) ∧ (∀ y0 y1, LeO (listing_parts.j4 k y0 y1) (listing_parts.j4 (k + 1) y0 y1)) ∧ (∀ y0 y1, LeO (listing_parts.j5 k y0 y1) (listing_parts.j5 (k + 1) y0 y1)) ∧ (∀ y0 y1, LeO (listing_parts.j6 k y0 y1) (listing_parts.j6 (k + 1) y0 y1)) ∧ (∀ y0 y1, LeO (listing_parts.j7 k y0 y1) (listing_parts.j7 (k + 1) y0 y1))
 | 0 => ⟨fun _ _ r h => by simp [listing_parts.j0] at h, fun _ _ r h => by simp [listing_parts.j1] at h, fun _ _ r h => by simp [listing_parts.j2] at h, fun _ _ r h => by simp [listing_parts.j3] at h, fun _ _ r h => by simp [listing_parts.j4] at h, fun _ _ r h => by simp [listing_parts.j5] at h, fun _ _ r h => by simp [listing_parts.j6] at h, fun _ _ r h => by simp [listing_parts.j7] at h⟩
 | k + 1 => by
  obtain ⟨ih0, ih1, ih2, ih3, ih4, ih5, ih6, ih7⟩ := listing_parts.mono_l k
  refine ⟨?_, ?_, ?_, ?_, ?_, ?_, ?_, ?_⟩
  ·intro y0 y1
   unfold listing_parts.j0
   repeat' first
   | (with_reducible exact ih0 _ _)
   | (with_reducible exact ih1 _ _)
   | (with_reducible exact ih2 _ _)
   | (with_reducible exact ih3 _ _)
   | (with_reducible exact ih4 _ _)
   | (with_reducible exact ih5 _ _)
   | (with_reducible exact ih6 _ _)
   | (with_reducible exact ih7 _ _)
   | (with_reducible exact LeO.refl _)
   | (with_reducible exact LeO.none _)
   | (with_reducible refine LeO.ite ?_ ?_)
   | (with_reducible refine LeO.bind ?_ (fun _ => ?_))
   | exact ih0 _ _
   | exact ih1 _ _
   | exact ih2 _ _
   | exact ih3 _ _
   | exact ih4 _ _
   | exact ih5 _ _
   | exact ih6 _ _
   | exact ih7 _ _
   | exact LeO.none _
   | refine LeO.ite ?_ ?_
   | refine LeO.bind ?_ (fun _ => ?_)
  ·intro y0 y1
   unfold listing_parts.j1
   repeat' first
   | (with_reducible exact ih0 _ _)
   | (with_reducible exact ih1 _ _)
   | (with_reducible exact ih2 _ _)
   | (with_reducible exact ih3 _ _)
   | (with_reducible exact ih4 _ _)
   | (with_reducible exact ih5 _ _)
   | (with_reducible exact ih6 _ _)
   | (with_reducible exact ih7 _ _)
   | (with_reducible exact LeO.refl _)
   | (with_reducible exact LeO.none _)
   | (with_reducible refine LeO.ite ?_ ?_)
   | (with_reducible refine LeO.bind ?_ (fun _ => ?_))
   | exact ih0 _ _
   | exact ih1 _ _
   | exact ih2 _ _
   | exact ih3 _ _
   | exact ih4 _ _
   | exact ih5 _ _
   | exact ih6 _ _
   | exact ih7 _ _
   | exact LeO.none _
   | refine LeO.ite ?_ ?_
   | refine LeO.bind ?_ (fun _ => ?_)
  ·intro y0 y1
   unfold listing_parts.j2
   repeat' first
   | (with_reducible exact ih0 _ _)
   | (with_reducible exact ih1 _ _)
   | (with_reducible exact ih2 _ _)
   | (with_reducible exact ih3 _ _)
   | (with_reducible exact ih4 _ _)
   | (with_reducible exact ih5 _ _)
   | (with_reducible exact ih6 _ _)
   | (with_reducible exact ih7 _ _)
   | (with_reducible exact LeO.refl _)
   | (with_reducible exact LeO.none _)
   | (with_reducible refine LeO.ite ?_ ?_)
   | (with_reducible refine LeO.bind ?_ (fun _ => ?_))
   | exact ih0 _ _
   | exact ih1 _ _
   | exact ih2 _ _
   | exact ih3 _ _
   | exact ih4 _ _
   | exact ih5 _ _
   | exact ih6 _ _
   | exact ih7 _ _
   | exact LeO.none _
   | refine LeO.ite ?_ ?_
   | refine LeO.bind ?_ (fun _ => ?_)
  ·intro y0 y1
   unfold listing_parts.j3
   repeat' first
   | (with_reducible exact ih0 _ _)
   | (with_reducible exact ih1 _ _)
   | (with_reducible exact ih2 _ _)
   | (with_reducible exact ih3 _ _)
   | (with_reducible exact ih4 _ _)
   | (with_reducible exact ih5 _ _)
   | (with_reducible exact ih6 _ _)
   | (with_reducible exact ih7 _ _)
   | (with_reducible exact LeO.refl _)
   | (with_reducible exact LeO.none _)
   | (with_reducible refine LeO.ite ?_ ?_)
   | (with_reducible refine LeO.bind ?_ (fun _ => ?_))
   | exact ih0 _ _
   | exact ih1 _ _
   | exact ih2 _ _
   | exact ih3 _ _
   | exact ih4 _ _
   | exact ih5 _ _
   | exact ih6 _ _
   | exact ih7 _ _
   | exact LeO.none _
   | refine LeO.ite ?_ ?_
   | refine LeO.bind ?_ (fun _ => ?_)
  ·intro y0 y1
   unfold listing_parts.j4
   repeat' first
   | (with_reducible exact ih0 _ _)
   | (with_reducible exact ih1 _ _)
   | (with_reducible exact ih2 _ _)
   | (with_reducible exact ih3 _ _)
   | (with_reducible exact ih4 _ _)
   | (with_reducible exact ih5 _ _)
   | (with_reducible exact ih6 _ _)
   | (with_reducible exact ih7 _ _)
   | (with_reducible exact LeO.refl _)
   | (with_reducible exact LeO.none _)
   | (with_reducible refine LeO.ite ?_ ?_)
   | (with_reducible refine LeO.bind ?_ (fun _ => ?_))
   | exact ih0 _ _
   | exact ih1 _ _
   | exact ih2 _ _
   | exact ih3 _ _
   | exact ih4 _ _
   | exact ih5 _ _
   | exact ih6 _ _
   | exact ih7 _ _
   | exact LeO.none _
   | refine LeO.ite ?_ ?_
   | refine LeO.bind ?_ (fun _ => ?_)
  ·intro y0 y1
   unfold listing_parts.j5
   repeat' first
   | (with_reducible exact ih0 _ _)
   | (with_reducible exact ih1 _ _)
   | (with_reducible exact ih2 _ _)
   | (with_reducible exact ih3 _ _)
   | (with_reducible exact ih4 _ _)
   | (with_reducible exact ih5 _ _)
   | (with_reducible exact ih6 _ _)
   | (with_reducible exact ih7 _ _)
   | (with_reducible exact LeO.refl _)
   | (with_reducible exact LeO.none _)
   | (with_reducible refine LeO.ite ?_ ?_)
   | (with_reducible refine LeO.bind ?_ (fun _ => ?_))
   | exact ih0 _ _
   | exact ih1 _ _
   | exact ih2 _ _
   | exact ih3 _ _
   | exact ih4 _ _
   | exact ih5 _ _
   | exact ih6 _ _
   | exact ih7 _ _
   | exact LeO.none _
   | refine LeO.ite ?_ ?_
   | refine LeO.bind ?_ (fun _ => ?_)
  ·intro y0 y1
   unfold listing_parts.j6
   repeat' first
   | (with_reducible exact ih0 _ _)
   | (with_reducible exact ih1 _ _)
   | (with_reducible exact ih2 _ _)
   | (with_reducible exact ih3 _ _)
   | (with_reducible exact ih4 _ _)
   | (with_reducible exact ih5 _ _)
   | (with_reducible exact ih6 _ _)
   | (with_reducible exact ih7 _ _)
   | (with_reducible exact LeO.refl _)
   | (with_reducible exact LeO.none _)
   | (with_reducible refine LeO.ite ?_ ?_)
   | (with_reducible refine LeO.bind ?_ (fun _ => ?_))
   | exact ih0 _ _
   | exact ih1 _ _
   | exact ih2 _ _
   | exact ih3 _ _
   | exact ih4 _ _
   | exact ih5 _ _
   | exact ih6 _ _
   | exact ih7 _ _
   | exact LeO.none _
   | refine LeO.ite ?_ ?_
   | refine LeO.bind ?_ (fun _ => ?_)
  ·intro y0 y1
   unfold listing_parts.j7
   repeat' first
   | (with_reducible exact ih0 _ _)
   | (with_reducible exact ih1 _ _)
   | (with_reducible exact ih2 _ _)
   | (with_reducible exact ih3 _ _)
   | (with_reducible exact ih4 _ _)
   | (with_reducible exact ih5 _ _)
   | (with_reducible exact ih6 _ _)
   | (with_reducible exact ih7 _ _)
   | (with_reducible exact LeO.refl _)
   | (with_reducible exact LeO.none _)
   | (with_reducible refine LeO.ite ?_ ?_)
   | (with_reducible refine LeO.bind ?_ (fun _ => ?_))
   | exact ih0 _ _
   | exact ih1 _ _
   | exact ih2 _ _
   | exact ih3 _ _
   | exact ih4 _ _
   | exact ih5 _ _
   | exact ih6 _ _
   | exact ih7 _ _
   | exact LeO.none _
   | refine LeO.ite ?_ ?_
   | refine LeO.bind ?_ (fun _ => ?_)
theorem listing_parts.mono : ∀ a0 k, LeO (listing_parts.f k a0) (listing_parts.f (k + 1) a0) := by
 intro a0 k
 obtain ⟨ih0, ih1, ih2, ih3, ih4, ih5, ih6, ih7⟩ := listing_parts.mono_l k
 unfold listing_parts.f
 repeat' first
   | (with_reducible exact ih0 _ _)
   | (with_reducible exact ih1 _ _)
   | (with_reducible exact ih2 _ _)
   | (with_reducible exact ih3 _ _)
   | (with_reducible exact ih4 _ _)
   | (with_reducible exact ih5 _ _)
   | (with_reducible exact ih6 _ _)
   | (with_reducible exact ih7 _ _)
   | (with_reducible exact LeO.refl _)
   | (with_reducible exact LeO.none _)
   | (with_reducible refine LeO.ite ?_ ?_)
   | (with_reducible refine LeO.bind ?_ (fun _ => ?_))
   | exact ih0 _ _
   | exact ih1 _ _
   | exact ih2 _ _
   | exact ih3 _ _
   | exact ih4 _ _
   | exact ih5 _ _
   | exact ih6 _ _
   | exact ih7 _ _
   | exact LeO.none _
   | refine LeO.ite ?_ ?_
   | refine LeO.bind ?_ (fun _ => ?_)
set_option maxHeartbeats 8000000 in
set_option maxRecDepth 100000 in
theorem listing_parts.calls (k : Nat) (a0 : Int) (r : ByteArray) (w : World) (h : listing_parts.f k a0 = some r) :
  Calls Try.prog 23 #[.int .i64 a0] w fun e w' => e = .returned (.string r) ∧ Drawn0 w w' := by
 have H : (if a0 = 1 then (listing_parts.j0 k a0 (a0 == 1)) else (listing_parts.j0 k a0 (a0 == 10))) = some r := h
 clear h
 have HC2 := Aside0.mk H
 clear H
 go_enter Try.func23, Try.ntmps23
 go_upto_if 4 with (fail)
 go_cut [4] (fun v4 wc => ∃ (kq : Nat) (x4_1 : Bool), v4 = .bool x4_1 ∧ Aside0 (listing_parts.j0 kq a0 x4_1 = some r) ∧ Aside0 (kq ≤ k) ∧ Drawn0 w wc)
 case first =>
  have H := HC2.out
  clear HC2
  by_cases c3 : a0 = 1
  ·rw [if_pos c3] at H
   have c3b0 : (a0 == 1) = true := beq_iff_eq.mpr c3
   have c3b1 : (a0 != 1) = false := bne_eq_false_iff_eq.mpr c3
   clear c3
   (first | rw [c3b0] | (simp only [i64_w, i32_w]; rw [c3b0]) | skip)
   have H' := Aside0.mk H
   clear H
   go_wp2
   go_meet
   case rel => exact ⟨_, ((a0 == 1)), (by first | rfl | (simp; done) | (simp [*]; done)), H', ⟨by first | omega | exact Nat.le_refl _⟩, zQ⟩
  ·rw [if_neg c3] at H
   have c3b0 : (a0 == 1) = false := beq_eq_false_iff_ne.mpr c3
   have c3b1 : (a0 != 1) = true := bne_iff_ne.mpr c3
   (first | rw [c3b0] | (simp only [i64_w, i32_w]; rw [c3b0]) | skip)
   have H' := Aside0.mk H
   clear H
   go_wp2
   go_meet
   case rel => exact ⟨_, ((a0 == 10)), (by first | rfl | (simp; done) | (simp [*]; done)), H', ⟨by first | omega | exact Nat.le_refl _⟩, zQ⟩
 case rest =>
  clear HC2
  try clear c2
  try clear p2
  try clear c3
  try clear c3b0
  try clear c3b1
  obtain ⟨kq, x4_1, rfl, HA, HJ1, ⟨mc1, rfl⟩⟩ := hcut
  cases kq with
  | zero => exact absurd HA.out (by simp [listing_parts.j0])
  | succ kj1 =>
   have H := HA.out
   clear HA
   simp only [listing_parts.j0] at H
   by_cases c4 : x4_1 = true
   ·subst c4
    have H1 : (some (⟨#[100, 110]⟩ : ByteArray)) = some r := by rw [if_pos rfl] at H; exact H
    clear H
    have H := H1
    clear H1
    obtain rfl := Option.some.inj H
    go_wp2
    go_ret
    exact ⟨by first | rfl | (simp; done) | (simp [*]; done), zQ⟩
   ·replace c4 := Bool.eq_false_iff.mpr c4
    subst c4
    have H1 : (if a0 = 2 then (listing_parts.j1 kj1 a0 (a0 == 2)) else (if a0 = 3 then (listing_parts.j1 kj1 a0 (a0 == 3)) else (if a0 = 4 then (listing_parts.j1 kj1 a0 (a0 == 4)) else (if a0 = 5 then (listing_parts.j1 kj1 a0 (a0 == 5)) else (if a0 = 6 then (listing_parts.j1 kj1 a0 (a0 == 6)) else (if a0 = 7 then (listing_parts.j1 kj1 a0 (a0 == 7)) else (listing_parts.j1 kj1 a0 (a0 == 9)))))))) = some r := by rw [if_neg (show ¬ (false = true) by decide)] at H; exact H
    clear H
    have H := H1
    clear H1
    have HC5 := Aside0.mk H
    clear H
    go_upto_if 7 with (fail)
    go_cut [7] (fun v7 wc => ∃ (kq : Nat) (x7_4 : Bool), v7 = .bool x7_4 ∧ Aside0 (listing_parts.j1 kq a0 x7_4 = some r) ∧ Aside0 (kq ≤ kj1) ∧ Drawn0 w wc)
    case first =>
     have H := HC5.out
     clear HC5
     by_cases c6 : a0 = 2
     ·rw [if_pos c6] at H
      have c6b0 : (a0 == 2) = true := beq_iff_eq.mpr c6
      have c6b1 : (a0 != 2) = false := bne_eq_false_iff_eq.mpr c6
      clear c6
      (first | rw [c6b0] | (simp only [i64_w, i32_w]; rw [c6b0]) | skip)
      have H' := Aside0.mk H
      clear H
      go_wp2
      go_meet
      case rel => exact ⟨_, ((a0 == 2)), (by first | rfl | (simp; done) | (simp [*]; done)), H', ⟨by have := HJ1.out; first | omega | exact Nat.le_refl _⟩, zQ⟩
     ·rw [if_neg c6] at H
      have c6b0 : (a0 == 2) = false := beq_eq_false_iff_ne.mpr c6
      have c6b1 : (a0 != 2) = true := bne_iff_ne.mpr c6
      (first | rw [c6b0] | (simp only [i64_w, i32_w]; rw [c6b0]) | skip)
      by_cases c7 : a0 = 3
      ·rw [if_pos c7] at H
       have c7b0 : (a0 == 3) = true := beq_iff_eq.mpr c7
       have c7b1 : (a0 != 3) = false := bne_eq_false_iff_eq.mpr c7
       clear c7
       have H' := Aside0.mk H
       clear H
       go_wp2
       go_meet
       case rel => exact ⟨_, ((a0 == 3)), (by first | rfl | (simp; done) | (simp [*]; done)), H', ⟨by have := HJ1.out; first | omega | exact Nat.le_refl _⟩, zQ⟩
      ·rw [if_neg c7] at H
       have c7b0 : (a0 == 3) = false := beq_eq_false_iff_ne.mpr c7
       have c7b1 : (a0 != 3) = true := bne_iff_ne.mpr c7
       by_cases c8 : a0 = 4
       ·rw [if_pos c8] at H
        have c8b0 : (a0 == 4) = true := beq_iff_eq.mpr c8
        have c8b1 : (a0 != 4) = false := bne_eq_false_iff_eq.mpr c8
        clear c8
        have H' := Aside0.mk H
        clear H
        go_wp2
        go_meet
        case rel => exact ⟨_, ((a0 == 4)), (by first | rfl | (simp; done) | (simp [*]; done)), H', ⟨by have := HJ1.out; first | omega | exact Nat.le_refl _⟩, zQ⟩
       ·rw [if_neg c8] at H
        have c8b0 : (a0 == 4) = false := beq_eq_false_iff_ne.mpr c8
        have c8b1 : (a0 != 4) = true := bne_iff_ne.mpr c8
        by_cases c9 : a0 = 5
        ·rw [if_pos c9] at H
         have c9b0 : (a0 == 5) = true := beq_iff_eq.mpr c9
         have c9b1 : (a0 != 5) = false := bne_eq_false_iff_eq.mpr c9
         clear c9
         have H' := Aside0.mk H
         clear H
         go_wp2
         go_meet
         case rel => exact ⟨_, ((a0 == 5)), (by first | rfl | (simp; done) | (simp [*]; done)), H', ⟨by have := HJ1.out; first | omega | exact Nat.le_refl _⟩, zQ⟩
        ·rw [if_neg c9] at H
         have c9b0 : (a0 == 5) = false := beq_eq_false_iff_ne.mpr c9
         have c9b1 : (a0 != 5) = true := bne_iff_ne.mpr c9
         by_cases c10 : a0 = 6
         ·rw [if_pos c10] at H
          have c10b0 : (a0 == 6) = true := beq_iff_eq.mpr c10
          have c10b1 : (a0 != 6) = false := bne_eq_false_iff_eq.mpr c10
          clear c10
          have H' := Aside0.mk H
          clear H
          go_wp2
          go_meet
          case rel => exact ⟨_, ((a0 == 6)), (by first | rfl | (simp; done) | (simp [*]; done)), H', ⟨by have := HJ1.out; first | omega | exact Nat.le_refl _⟩, zQ⟩
         ·rw [if_neg c10] at H
          have c10b0 : (a0 == 6) = false := beq_eq_false_iff_ne.mpr c10
          have c10b1 : (a0 != 6) = true := bne_iff_ne.mpr c10
          by_cases c11 : a0 = 7
          ·rw [if_pos c11] at H
           have c11b0 : (a0 == 7) = true := beq_iff_eq.mpr c11
           have c11b1 : (a0 != 7) = false := bne_eq_false_iff_eq.mpr c11
           clear c11
           have H' := Aside0.mk H
           clear H
           go_wp2
           go_meet
           case rel => exact ⟨_, ((a0 == 7)), (by first | rfl | (simp; done) | (simp [*]; done)), H', ⟨by have := HJ1.out; first | omega | exact Nat.le_refl _⟩, zQ⟩
          ·rw [if_neg c11] at H
           have c11b0 : (a0 == 7) = false := beq_eq_false_iff_ne.mpr c11
           have c11b1 : (a0 != 7) = true := bne_iff_ne.mpr c11
           have H' := Aside0.mk H
           clear H
           go_wp2
           go_meet
           case rel => exact ⟨_, ((a0 == 9)), (by first | rfl | (simp; done) | (simp [*]; done)), H', ⟨by have := HJ1.out; first | omega | exact Nat.le_refl _⟩, zQ⟩
    case rest =>
     clear HC5
     try clear c1
     try clear c2
     try clear p2
     try clear c3
     try clear c3b0
     try clear c3b1
     try clear c4
     try clear c6
     try clear c6b0
     try clear c6b1
     try clear c7
     try clear c7b0
     try clear c7b1
     try clear c8
     try clear c8b0
     try clear c8b1
     try clear c9
     try clear c9b0
     try clear c9b1
     try clear c10
     try clear c10b0
     try clear c10b1
     try clear c11
     try clear c11b0
     try clear c11b1
     try clear p2
     obtain ⟨kq, x7_4, rfl, HA, HJ4, ⟨mc4, rfl⟩⟩ := hcut
     cases kq with
     | zero => exact absurd HA.out (by simp [listing_parts.j1])
     | succ kj4 =>
      have H := HA.out
      clear HA
      simp only [listing_parts.j1] at H
      by_cases c12 : x7_4 = true
      ·subst c12
       have H1 : (some (⟨#[100, 97, 98]⟩ : ByteArray)) = some r := by rw [if_pos rfl] at H; exact H
       clear H
       have H := H1
       clear H1
       obtain rfl := Option.some.inj H
       go_wp2
       go_ret
       exact ⟨by first | rfl | (simp; done) | (simp [*]; done), zQ⟩
      ·replace c12 := Bool.eq_false_iff.mpr c12
       subst c12
       have H1 : (if a0 = 8 then (some (⟨#[100]⟩ : ByteArray)) else (if a0 = 11 then (listing_parts.j2 kj4 a0 (a0 == 11)) else (if a0 = 12 then (listing_parts.j2 kj4 a0 (a0 == 12)) else (listing_parts.j2 kj4 a0 (a0 == 15))))) = some r := by rw [if_neg (show ¬ (false = true) by decide)] at H; exact H
       clear H
       have H := H1
       clear H1
       by_cases c13 : a0 = 8
       ·rw [if_pos c13] at H
        have c13b0 : (a0 == 8) = true := beq_iff_eq.mpr c13
        have c13b1 : (a0 != 8) = false := bne_eq_false_iff_eq.mpr c13
        clear c13
        obtain rfl := Option.some.inj H
        go_wp2
        go_ret
        exact ⟨by first | rfl | (simp; done) | (simp [*]; done), zQ⟩
       ·rw [if_neg c13] at H
        have c13b0 : (a0 == 8) = false := beq_eq_false_iff_ne.mpr c13
        have c13b1 : (a0 != 8) = true := bne_iff_ne.mpr c13
        have HC14 := Aside0.mk H
        clear H
        go_upto_if 17 with (fail)
        go_cut [17] (fun v17 wc => ∃ (kq : Nat) (x17_13 : Bool), v17 = .bool x17_13 ∧ Aside0 (listing_parts.j2 kq a0 x17_13 = some r) ∧ Aside0 (kq ≤ kj4) ∧ Drawn0 w wc)
        case first =>
         have H := HC14.out
         clear HC14
         by_cases c15 : a0 = 11
         ·rw [if_pos c15] at H
          have c15b0 : (a0 == 11) = true := beq_iff_eq.mpr c15
          have c15b1 : (a0 != 11) = false := bne_eq_false_iff_eq.mpr c15
          clear c15
          (first | rw [c15b0] | (simp only [i64_w, i32_w]; rw [c15b0]) | skip)
          have H' := Aside0.mk H
          clear H
          go_wp2
          go_meet
          case rel => exact ⟨_, ((a0 == 11)), (by first | rfl | (simp; done) | (simp [*]; done)), H', ⟨by have := HJ1.out; have := HJ4.out; first | omega | exact Nat.le_refl _⟩, zQ⟩
         ·rw [if_neg c15] at H
          have c15b0 : (a0 == 11) = false := beq_eq_false_iff_ne.mpr c15
          have c15b1 : (a0 != 11) = true := bne_iff_ne.mpr c15
          (first | rw [c15b0] | (simp only [i64_w, i32_w]; rw [c15b0]) | skip)
          by_cases c16 : a0 = 12
          ·rw [if_pos c16] at H
           have c16b0 : (a0 == 12) = true := beq_iff_eq.mpr c16
           have c16b1 : (a0 != 12) = false := bne_eq_false_iff_eq.mpr c16
           clear c16
           have H' := Aside0.mk H
           clear H
           go_wp2
           go_meet
           case rel => exact ⟨_, ((a0 == 12)), (by first | rfl | (simp; done) | (simp [*]; done)), H', ⟨by have := HJ1.out; have := HJ4.out; first | omega | exact Nat.le_refl _⟩, zQ⟩
          ·rw [if_neg c16] at H
           have c16b0 : (a0 == 12) = false := beq_eq_false_iff_ne.mpr c16
           have c16b1 : (a0 != 12) = true := bne_iff_ne.mpr c16
           have H' := Aside0.mk H
           clear H
           go_wp2
           go_meet
           case rel => exact ⟨_, ((a0 == 15)), (by first | rfl | (simp; done) | (simp [*]; done)), H', ⟨by have := HJ1.out; have := HJ4.out; first | omega | exact Nat.le_refl _⟩, zQ⟩
        case rest =>
         clear HC14
         try clear c1
         try clear c2
         try clear p2
         try clear c3
         try clear c3b0
         try clear c3b1
         try clear c4
         try clear c6
         try clear c6b0
         try clear c6b1
         try clear c7
         try clear c7b0
         try clear c7b1
         try clear c8
         try clear c8b0
         try clear c8b1
         try clear c9
         try clear c9b0
         try clear c9b1
         try clear c10
         try clear c10b0
         try clear c10b1
         try clear c11
         try clear c11b0
         try clear c11b1
         try clear c12
         try clear c13
         try clear c13b0
         try clear c13b1
         try clear c15
         try clear c15b0
         try clear c15b1
         try clear c16
         try clear c16b0
         try clear c16b1
         try clear p2
         obtain ⟨kq, x17_13, rfl, HA, HJ13, ⟨mc13, rfl⟩⟩ := hcut
         cases kq with
         | zero => exact absurd HA.out (by simp [listing_parts.j2])
         | succ kj13 =>
          have H := HA.out
          clear HA
          simp only [listing_parts.j2] at H
          by_cases c17 : x17_13 = true
          ·subst c17
           have H1 : (some (⟨#[100, 97, 110]⟩ : ByteArray)) = some r := by rw [if_pos rfl] at H; exact H
           clear H
           have H := H1
           clear H1
           obtain rfl := Option.some.inj H
           go_wp2
           go_ret
           exact ⟨by first | rfl | (simp; done) | (simp [*]; done), zQ⟩
          ·replace c17 := Bool.eq_false_iff.mpr c17
           subst c17
           have H1 : (if a0 = 13 then (listing_parts.j3 kj13 a0 (a0 == 13)) else (listing_parts.j3 kj13 a0 (a0 == 14))) = some r := by rw [if_neg (show ¬ (false = true) by decide)] at H; exact H
           clear H
           have H := H1
           clear H1
           have HC18 := Aside0.mk H
           clear H
           go_upto_if 21 with (fail)
           go_cut [21] (fun v21 wc => ∃ (kq : Nat) (x21_17 : Bool), v21 = .bool x21_17 ∧ Aside0 (listing_parts.j3 kq a0 x21_17 = some r) ∧ Aside0 (kq ≤ kj13) ∧ Drawn0 w wc)
           case first =>
            have H := HC18.out
            clear HC18
            by_cases c19 : a0 = 13
            ·rw [if_pos c19] at H
             have c19b0 : (a0 == 13) = true := beq_iff_eq.mpr c19
             have c19b1 : (a0 != 13) = false := bne_eq_false_iff_eq.mpr c19
             clear c19
             (first | rw [c19b0] | (simp only [i64_w, i32_w]; rw [c19b0]) | skip)
             have H' := Aside0.mk H
             clear H
             go_wp2
             go_meet
             case rel => exact ⟨_, ((a0 == 13)), (by first | rfl | (simp; done) | (simp [*]; done)), H', ⟨by have := HJ1.out; have := HJ4.out; have := HJ13.out; first | omega | exact Nat.le_refl _⟩, zQ⟩
            ·rw [if_neg c19] at H
             have c19b0 : (a0 == 13) = false := beq_eq_false_iff_ne.mpr c19
             have c19b1 : (a0 != 13) = true := bne_iff_ne.mpr c19
             (first | rw [c19b0] | (simp only [i64_w, i32_w]; rw [c19b0]) | skip)
             have H' := Aside0.mk H
             clear H
             go_wp2
             go_meet
             case rel => exact ⟨_, ((a0 == 14)), (by first | rfl | (simp; done) | (simp [*]; done)), H', ⟨by have := HJ1.out; have := HJ4.out; have := HJ13.out; first | omega | exact Nat.le_refl _⟩, zQ⟩
           case rest =>
            clear HC18
            try clear c1
            try clear c2
            try clear p2
            try clear c3
            try clear c3b0
            try clear c3b1
            try clear c4
            try clear c6
            try clear c6b0
            try clear c6b1
            try clear c7
            try clear c7b0
            try clear c7b1
            try clear c8
            try clear c8b0
            try clear c8b1
            try clear c9
            try clear c9b0
            try clear c9b1
            try clear c10
            try clear c10b0
            try clear c10b1
            try clear c11
            try clear c11b0
            try clear c11b1
            try clear c12
            try clear c13
            try clear c13b0
            try clear c13b1
            try clear c15
            try clear c15b0
            try clear c15b1
            try clear c16
            try clear c16b0
            try clear c16b1
            try clear c17
            try clear c19
            try clear c19b0
            try clear c19b1
            try clear p2
            obtain ⟨kq, x21_17, rfl, HA, HJ17, ⟨mc17, rfl⟩⟩ := hcut
            cases kq with
            | zero => exact absurd HA.out (by simp [listing_parts.j3])
            | succ kj17 =>
             have H := HA.out
             clear HA
             simp only [listing_parts.j3] at H
             by_cases c20 : x21_17 = true
             ·subst c20
              have H1 : (some (⟨#[97, 98, 110]⟩ : ByteArray)) = some r := by rw [if_pos rfl] at H; exact H
              clear H
              have H := H1
              clear H1
              obtain rfl := Option.some.inj H
              go_wp2
              go_ret
              exact ⟨by first | rfl | (simp; done) | (simp [*]; done), zQ⟩
             ·replace c20 := Bool.eq_false_iff.mpr c20
              subst c20
              have H1 : (if a0 = 16 then (listing_parts.j4 kj17 a0 (a0 == 16)) else (if a0 = 17 then (listing_parts.j4 kj17 a0 (a0 == 17)) else (listing_parts.j4 kj17 a0 (a0 == 30)))) = some r := by rw [if_neg (show ¬ (false = true) by decide)] at H; exact H
              clear H
              have H := H1
              clear H1
              have HC21 := Aside0.mk H
              clear H
              go_upto_if 24 with (fail)
              go_cut [24] (fun v24 wc => ∃ (kq : Nat) (x24_20 : Bool), v24 = .bool x24_20 ∧ Aside0 (listing_parts.j4 kq a0 x24_20 = some r) ∧ Aside0 (kq ≤ kj17) ∧ Drawn0 w wc)
              case first =>
               have H := HC21.out
               clear HC21
               by_cases c22 : a0 = 16
               ·rw [if_pos c22] at H
                have c22b0 : (a0 == 16) = true := beq_iff_eq.mpr c22
                have c22b1 : (a0 != 16) = false := bne_eq_false_iff_eq.mpr c22
                clear c22
                (first | rw [c22b0] | (simp only [i64_w, i32_w]; rw [c22b0]) | skip)
                have H' := Aside0.mk H
                clear H
                go_wp2
                go_meet
                case rel => exact ⟨_, ((a0 == 16)), (by first | rfl | (simp; done) | (simp [*]; done)), H', ⟨by have := HJ1.out; have := HJ4.out; have := HJ13.out; have := HJ17.out; first | omega | exact Nat.le_refl _⟩, zQ⟩
               ·rw [if_neg c22] at H
                have c22b0 : (a0 == 16) = false := beq_eq_false_iff_ne.mpr c22
                have c22b1 : (a0 != 16) = true := bne_iff_ne.mpr c22
                (first | rw [c22b0] | (simp only [i64_w, i32_w]; rw [c22b0]) | skip)
                by_cases c23 : a0 = 17
                ·rw [if_pos c23] at H
                 have c23b0 : (a0 == 17) = true := beq_iff_eq.mpr c23
                 have c23b1 : (a0 != 17) = false := bne_eq_false_iff_eq.mpr c23
                 clear c23
                 have H' := Aside0.mk H
                 clear H
                 go_wp2
                 go_meet
                 case rel => exact ⟨_, ((a0 == 17)), (by first | rfl | (simp; done) | (simp [*]; done)), H', ⟨by have := HJ1.out; have := HJ4.out; have := HJ13.out; have := HJ17.out; first | omega | exact Nat.le_refl _⟩, zQ⟩
                ·rw [if_neg c23] at H
                 have c23b0 : (a0 == 17) = false := beq_eq_false_iff_ne.mpr c23
                 have c23b1 : (a0 != 17) = true := bne_iff_ne.mpr c23
                 have H' := Aside0.mk H
                 clear H
                 go_wp2
                 go_meet
                 case rel => exact ⟨_, ((a0 == 30)), (by first | rfl | (simp; done) | (simp [*]; done)), H', ⟨by have := HJ1.out; have := HJ4.out; have := HJ13.out; have := HJ17.out; first | omega | exact Nat.le_refl _⟩, zQ⟩
              case rest =>
               clear HC21
               try clear c1
               try clear c2
               try clear p2
               try clear c3
               try clear c3b0
               try clear c3b1
               try clear c4
               try clear c6
               try clear c6b0
               try clear c6b1
               try clear c7
               try clear c7b0
               try clear c7b1
               try clear c8
               try clear c8b0
               try clear c8b1
               try clear c9
               try clear c9b0
               try clear c9b1
               try clear c10
               try clear c10b0
               try clear c10b1
               try clear c11
               try clear c11b0
               try clear c11b1
               try clear c12
               try clear c13
               try clear c13b0
               try clear c13b1
               try clear c15
               try clear c15b0
               try clear c15b1
               try clear c16
               try clear c16b0
               try clear c16b1
               try clear c17
               try clear c19
               try clear c19b0
               try clear c19b1
               try clear c20
               try clear c22
               try clear c22b0
               try clear c22b1
               try clear c23
               try clear c23b0
               try clear c23b1
               try clear p2
               obtain ⟨kq, x24_20, rfl, HA, HJ20, ⟨mc20, rfl⟩⟩ := hcut
               cases kq with
               | zero => exact absurd HA.out (by simp [listing_parts.j4])
               | succ kj20 =>
                have H := HA.out
                clear HA
                simp only [listing_parts.j4] at H
                by_cases c24 : x24_20 = true
                ·subst c24
                 have H1 : (some (⟨#[100, 97]⟩ : ByteArray)) = some r := by rw [if_pos rfl] at H; exact H
                 clear H
                 have H := H1
                 clear H1
                 obtain rfl := Option.some.inj H
                 go_wp2
                 go_ret
                 exact ⟨by first | rfl | (simp; done) | (simp [*]; done), zQ⟩
                ·replace c24 := Bool.eq_false_iff.mpr c24
                 subst c24
                 have H1 : (if a0 = 18 then (listing_parts.j5 kj20 a0 (a0 == 18)) else (listing_parts.j5 kj20 a0 (a0 == 19))) = some r := by rw [if_neg (show ¬ (false = true) by decide)] at H; exact H
                 clear H
                 have H := H1
                 clear H1
                 have HC25 := Aside0.mk H
                 clear H
                 go_upto_if 28 with (fail)
                 go_cut [28] (fun v28 wc => ∃ (kq : Nat) (x28_24 : Bool), v28 = .bool x28_24 ∧ Aside0 (listing_parts.j5 kq a0 x28_24 = some r) ∧ Aside0 (kq ≤ kj20) ∧ Drawn0 w wc)
                 case first =>
                  have H := HC25.out
                  clear HC25
                  by_cases c26 : a0 = 18
                  ·rw [if_pos c26] at H
                   have c26b0 : (a0 == 18) = true := beq_iff_eq.mpr c26
                   have c26b1 : (a0 != 18) = false := bne_eq_false_iff_eq.mpr c26
                   clear c26
                   (first | rw [c26b0] | (simp only [i64_w, i32_w]; rw [c26b0]) | skip)
                   have H' := Aside0.mk H
                   clear H
                   go_wp2
                   go_meet
                   case rel => exact ⟨_, ((a0 == 18)), (by first | rfl | (simp; done) | (simp [*]; done)), H', ⟨by have := HJ1.out; have := HJ4.out; have := HJ13.out; have := HJ17.out; have := HJ20.out; first | omega | exact Nat.le_refl _⟩, zQ⟩
                  ·rw [if_neg c26] at H
                   have c26b0 : (a0 == 18) = false := beq_eq_false_iff_ne.mpr c26
                   have c26b1 : (a0 != 18) = true := bne_iff_ne.mpr c26
                   (first | rw [c26b0] | (simp only [i64_w, i32_w]; rw [c26b0]) | skip)
                   have H' := Aside0.mk H
                   clear H
                   go_wp2
                   go_meet
                   case rel => exact ⟨_, ((a0 == 19)), (by first | rfl | (simp; done) | (simp [*]; done)), H', ⟨by have := HJ1.out; have := HJ4.out; have := HJ13.out; have := HJ17.out; have := HJ20.out; first | omega | exact Nat.le_refl _⟩, zQ⟩
                 case rest =>
                  clear HC25
                  try clear c1
                  try clear c2
                  try clear p2
                  try clear c3
                  try clear c3b0
                  try clear c3b1
                  try clear c4
                  try clear c6
                  try clear c6b0
                  try clear c6b1
                  try clear c7
                  try clear c7b0
                  try clear c7b1
                  try clear c8
                  try clear c8b0
                  try clear c8b1
                  try clear c9
                  try clear c9b0
                  try clear c9b1
                  try clear c10
                  try clear c10b0
                  try clear c10b1
                  try clear c11
                  try clear c11b0
                  try clear c11b1
                  try clear c12
                  try clear c13
                  try clear c13b0
                  try clear c13b1
                  try clear c15
                  try clear c15b0
                  try clear c15b1
                  try clear c16
                  try clear c16b0
                  try clear c16b1
                  try clear c17
                  try clear c19
                  try clear c19b0
                  try clear c19b1
                  try clear c20
                  try clear c22
                  try clear c22b0
                  try clear c22b1
                  try clear c23
                  try clear c23b0
                  try clear c23b1
                  try clear c24
                  try clear c26
                  try clear c26b0
                  try clear c26b1
                  try clear p2
                  obtain ⟨kq, x28_24, rfl, HA, HJ24, ⟨mc24, rfl⟩⟩ := hcut
                  cases kq with
                  | zero => exact absurd HA.out (by simp [listing_parts.j5])
                  | succ kj24 =>
                   have H := HA.out
                   clear HA
                   simp only [listing_parts.j5] at H
                   by_cases c27 : x28_24 = true
                   ·subst c27
                    have H1 : (some (⟨#[97, 98]⟩ : ByteArray)) = some r := by rw [if_pos rfl] at H; exact H
                    clear H
                    have H := H1
                    clear H1
                    obtain rfl := Option.some.inj H
                    go_wp2
                    go_ret
                    exact ⟨by first | rfl | (simp; done) | (simp [*]; done), zQ⟩
                   ·replace c27 := Bool.eq_false_iff.mpr c27
                    subst c27
                    have H1 : (if a0 = 21 then (some (⟨#[100, 102, 110, 108]⟩ : ByteArray)) else (if a0 = 22 then (listing_parts.j6 kj24 a0 (a0 == 22)) else (if a0 = 25 then (listing_parts.j6 kj24 a0 (a0 == 25)) else (listing_parts.j6 kj24 a0 (a0 == 28))))) = some r := by rw [if_neg (show ¬ (false = true) by decide)] at H; exact H
                    clear H
                    have H := H1
                    clear H1
                    by_cases c28 : a0 = 21
                    ·rw [if_pos c28] at H
                     have c28b0 : (a0 == 21) = true := beq_iff_eq.mpr c28
                     have c28b1 : (a0 != 21) = false := bne_eq_false_iff_eq.mpr c28
                     clear c28
                     obtain rfl := Option.some.inj H
                     go_wp2
                     go_ret
                     exact ⟨by first | rfl | (simp; done) | (simp [*]; done), zQ⟩
                    ·rw [if_neg c28] at H
                     have c28b0 : (a0 == 21) = false := beq_eq_false_iff_ne.mpr c28
                     have c28b1 : (a0 != 21) = true := bne_iff_ne.mpr c28
                     have HC29 := Aside0.mk H
                     clear H
                     go_upto_if 33 with (fail)
                     go_cut [33] (fun v33 wc => ∃ (kq : Nat) (x33_28 : Bool), v33 = .bool x33_28 ∧ Aside0 (listing_parts.j6 kq a0 x33_28 = some r) ∧ Aside0 (kq ≤ kj24) ∧ Drawn0 w wc)
                     case first =>
                      have H := HC29.out
                      clear HC29
                      by_cases c30 : a0 = 22
                      ·rw [if_pos c30] at H
                       have c30b0 : (a0 == 22) = true := beq_iff_eq.mpr c30
                       have c30b1 : (a0 != 22) = false := bne_eq_false_iff_eq.mpr c30
                       clear c30
                       (first | rw [c30b0] | (simp only [i64_w, i32_w]; rw [c30b0]) | skip)
                       have H' := Aside0.mk H
                       clear H
                       go_wp2
                       go_meet
                       case rel => exact ⟨_, ((a0 == 22)), (by first | rfl | (simp; done) | (simp [*]; done)), H', ⟨by have := HJ1.out; have := HJ4.out; have := HJ13.out; have := HJ17.out; have := HJ20.out; have := HJ24.out; first | omega | exact Nat.le_refl _⟩, zQ⟩
                      ·rw [if_neg c30] at H
                       have c30b0 : (a0 == 22) = false := beq_eq_false_iff_ne.mpr c30
                       have c30b1 : (a0 != 22) = true := bne_iff_ne.mpr c30
                       (first | rw [c30b0] | (simp only [i64_w, i32_w]; rw [c30b0]) | skip)
                       by_cases c31 : a0 = 25
                       ·rw [if_pos c31] at H
                        have c31b0 : (a0 == 25) = true := beq_iff_eq.mpr c31
                        have c31b1 : (a0 != 25) = false := bne_eq_false_iff_eq.mpr c31
                        clear c31
                        have H' := Aside0.mk H
                        clear H
                        go_wp2
                        go_meet
                        case rel => exact ⟨_, ((a0 == 25)), (by first | rfl | (simp; done) | (simp [*]; done)), H', ⟨by have := HJ1.out; have := HJ4.out; have := HJ13.out; have := HJ17.out; have := HJ20.out; have := HJ24.out; first | omega | exact Nat.le_refl _⟩, zQ⟩
                       ·rw [if_neg c31] at H
                        have c31b0 : (a0 == 25) = false := beq_eq_false_iff_ne.mpr c31
                        have c31b1 : (a0 != 25) = true := bne_iff_ne.mpr c31
                        have H' := Aside0.mk H
                        clear H
                        go_wp2
                        go_meet
                        case rel => exact ⟨_, ((a0 == 28)), (by first | rfl | (simp; done) | (simp [*]; done)), H', ⟨by have := HJ1.out; have := HJ4.out; have := HJ13.out; have := HJ17.out; have := HJ20.out; have := HJ24.out; first | omega | exact Nat.le_refl _⟩, zQ⟩
                     case rest =>
                      clear HC29
                      try clear c1
                      try clear c2
                      try clear p2
                      try clear c3
                      try clear c3b0
                      try clear c3b1
                      try clear c4
                      try clear c6
                      try clear c6b0
                      try clear c6b1
                      try clear c7
                      try clear c7b0
                      try clear c7b1
                      try clear c8
                      try clear c8b0
                      try clear c8b1
                      try clear c9
                      try clear c9b0
                      try clear c9b1
                      try clear c10
                      try clear c10b0
                      try clear c10b1
                      try clear c11
                      try clear c11b0
                      try clear c11b1
                      try clear c12
                      try clear c13
                      try clear c13b0
                      try clear c13b1
                      try clear c15
                      try clear c15b0
                      try clear c15b1
                      try clear c16
                      try clear c16b0
                      try clear c16b1
                      try clear c17
                      try clear c19
                      try clear c19b0
                      try clear c19b1
                      try clear c20
                      try clear c22
                      try clear c22b0
                      try clear c22b1
                      try clear c23
                      try clear c23b0
                      try clear c23b1
                      try clear c24
                      try clear c26
                      try clear c26b0
                      try clear c26b1
                      try clear c27
                      try clear c28
                      try clear c28b0
                      try clear c28b1
                      try clear c30
                      try clear c30b0
                      try clear c30b1
                      try clear c31
                      try clear c31b0
                      try clear c31b1
                      try clear p2
                      obtain ⟨kq, x33_28, rfl, HA, HJ28, ⟨mc28, rfl⟩⟩ := hcut
                      cases kq with
                      | zero => exact absurd HA.out (by simp [listing_parts.j6])
                      | succ kj28 =>
                       have H := HA.out
                       clear HA
                       simp only [listing_parts.j6] at H
                       by_cases c32 : x33_28 = true
                       ·subst c32
                        have H1 : (some (⟨#[97]⟩ : ByteArray)) = some r := by rw [if_pos rfl] at H; exact H
                        clear H
                        have H := H1
                        clear H1
                        obtain rfl := Option.some.inj H
                        go_wp2
                        go_ret
                        exact ⟨by first | rfl | (simp; done) | (simp [*]; done), zQ⟩
                       ·replace c32 := Bool.eq_false_iff.mpr c32
                        subst c32
                        have H1 : (if a0 = 23 then (listing_parts.j7 kj28 a0 (a0 == 23)) else (listing_parts.j7 kj28 a0 (a0 == 29))) = some r := by rw [if_neg (show ¬ (false = true) by decide)] at H; exact H
                        clear H
                        have H := H1
                        clear H1
                        have HC33 := Aside0.mk H
                        clear H
                        go_upto_if 37 with (fail)
                        go_cut [37] (fun v37 wc => ∃ (kq : Nat) (x37_32 : Bool), v37 = .bool x37_32 ∧ Aside0 (listing_parts.j7 kq a0 x37_32 = some r) ∧ Aside0 (kq ≤ kj28) ∧ Drawn0 w wc)
                        case first =>
                         have H := HC33.out
                         clear HC33
                         by_cases c34 : a0 = 23
                         ·rw [if_pos c34] at H
                          have c34b0 : (a0 == 23) = true := beq_iff_eq.mpr c34
                          have c34b1 : (a0 != 23) = false := bne_eq_false_iff_eq.mpr c34
                          clear c34
                          (first | rw [c34b0] | (simp only [i64_w, i32_w]; rw [c34b0]) | skip)
                          have H' := Aside0.mk H
                          clear H
                          go_wp2
                          go_meet
                          case rel => exact ⟨_, ((a0 == 23)), (by first | rfl | (simp; done) | (simp [*]; done)), H', ⟨by have := HJ1.out; have := HJ4.out; have := HJ13.out; have := HJ17.out; have := HJ20.out; have := HJ24.out; have := HJ28.out; first | omega | exact Nat.le_refl _⟩, zQ⟩
                         ·rw [if_neg c34] at H
                          have c34b0 : (a0 == 23) = false := beq_eq_false_iff_ne.mpr c34
                          have c34b1 : (a0 != 23) = true := bne_iff_ne.mpr c34
                          (first | rw [c34b0] | (simp only [i64_w, i32_w]; rw [c34b0]) | skip)
                          have H' := Aside0.mk H
                          clear H
                          go_wp2
                          go_meet
                          case rel => exact ⟨_, ((a0 == 29)), (by first | rfl | (simp; done) | (simp [*]; done)), H', ⟨by have := HJ1.out; have := HJ4.out; have := HJ13.out; have := HJ17.out; have := HJ20.out; have := HJ24.out; have := HJ28.out; first | omega | exact Nat.le_refl _⟩, zQ⟩
                        case rest =>
                         clear HC33
                         try clear c1
                         try clear c2
                         try clear p2
                         try clear c3
                         try clear c3b0
                         try clear c3b1
                         try clear c4
                         try clear c6
                         try clear c6b0
                         try clear c6b1
                         try clear c7
                         try clear c7b0
                         try clear c7b1
                         try clear c8
                         try clear c8b0
                         try clear c8b1
                         try clear c9
                         try clear c9b0
                         try clear c9b1
                         try clear c10
                         try clear c10b0
                         try clear c10b1
                         try clear c11
                         try clear c11b0
                         try clear c11b1
                         try clear c12
                         try clear c13
                         try clear c13b0
                         try clear c13b1
                         try clear c15
                         try clear c15b0
                         try clear c15b1
                         try clear c16
                         try clear c16b0
                         try clear c16b1
                         try clear c17
                         try clear c19
                         try clear c19b0
                         try clear c19b1
                         try clear c20
                         try clear c22
                         try clear c22b0
                         try clear c22b1
                         try clear c23
                         try clear c23b0
                         try clear c23b1
                         try clear c24
                         try clear c26
                         try clear c26b0
                         try clear c26b1
                         try clear c27
                         try clear c28
                         try clear c28b0
                         try clear c28b1
                         try clear c30
                         try clear c30b0
                         try clear c30b1
                         try clear c31
                         try clear c31b0
                         try clear c31b1
                         try clear c32
                         try clear c34
                         try clear c34b0
                         try clear c34b1
                         try clear p2
                         obtain ⟨kq, x37_32, rfl, HA, HJ32, ⟨mc32, rfl⟩⟩ := hcut
                         cases kq with
                         | zero => exact absurd HA.out (by simp [listing_parts.j7])
                         | succ kj32 =>
                          have H := HA.out
                          clear HA
                          simp only [listing_parts.j7] at H
                          by_cases c35 : x37_32 = true
                          ·subst c35
                           have H1 : (some (⟨#[110]⟩ : ByteArray)) = some r := by rw [if_pos rfl] at H; exact H
                           clear H
                           have H := H1
                           clear H1
                           obtain rfl := Option.some.inj H
                           go_wp2
                           go_ret
                           exact ⟨by first | rfl | (simp; done) | (simp [*]; done), zQ⟩
                          ·replace c35 := Bool.eq_false_iff.mpr c35
                           subst c35
                           have H1 : (if a0 = 26 then (some (⟨#[111]⟩ : ByteArray)) else (if a0 = 27 then (some (⟨#[97, 111, 116]⟩ : ByteArray)) else (some (⟨#[]⟩ : ByteArray)))) = some r := by rw [if_neg (show ¬ (false = true) by decide)] at H; exact H
                           clear H
                           have H := H1
                           clear H1
                           by_cases c36 : a0 = 26
                           ·rw [if_pos c36] at H
                            have c36b0 : (a0 == 26) = true := beq_iff_eq.mpr c36
                            have c36b1 : (a0 != 26) = false := bne_eq_false_iff_eq.mpr c36
                            clear c36
                            obtain rfl := Option.some.inj H
                            go_wp2
                            go_ret
                            exact ⟨by first | rfl | (simp; done) | (simp [*]; done), zQ⟩
                           ·rw [if_neg c36] at H
                            have c36b0 : (a0 == 26) = false := beq_eq_false_iff_ne.mpr c36
                            have c36b1 : (a0 != 26) = true := bne_iff_ne.mpr c36
                            by_cases c37 : a0 = 27
                            ·rw [if_pos c37] at H
                             have c37b0 : (a0 == 27) = true := beq_iff_eq.mpr c37
                             have c37b1 : (a0 != 27) = false := bne_eq_false_iff_eq.mpr c37
                             clear c37
                             obtain rfl := Option.some.inj H
                             go_wp2
                             go_ret
                             exact ⟨by first | rfl | (simp; done) | (simp [*]; done), zQ⟩
                            ·rw [if_neg c37] at H
                             have c37b0 : (a0 == 27) = false := beq_eq_false_iff_ne.mpr c37
                             have c37b1 : (a0 != 27) = true := bne_iff_ne.mpr c37
                             obtain rfl := Option.some.inj H
                             go_wp2
                             go_ret
                             exact ⟨by first | rfl | (simp; done) | (simp [*]; done), zQ⟩
end Go.Proofs.Ytkgjbdbhpohkiaa.PLi
end
