/- What the program's ops.Find answers: the operation, and the type, of a word. -/
import Derived.Test.YtcpomchijogblaaHOf
import Derived.Test.YtcpomchijogblaaPOpx2
import Derived.Test.YtcpomchijogblaaPOpx1
import Derived.Test.YtcpomchijogblaaPOpx3
import Derived.Lib.OthersKept
namespace Go.Proofs.Ytcpomchijogblaa.POp
open Go.RowKit Go.Proofs.YtcpomchijogblaaW.PrintWords Go.Proofs.YtcpomchijogblaaW.PrintLast Go.Proofs.YtcpomchijogblaaW.PrintMore Go.Proofs.Ytcpomchijogblaa.Str
set_option linter.unusedVariables false
set_option linter.unusedSimpArgs false

def typedB (op : Nat) : Bool := op == 20 || op == 21 || op == 24
def letterB (t : Nat) : ByteArray := if t = 1 then mk [105] else if t = 2 then mk [112] else if t = 3 then mk [100] else mk [110]
def mayB (op t : Nat) : Bool := if op = 20 then t == 1 || t == 2 || t == 3 else if op = 21 then t == 0 || t == 1 || t == 2 else if op = 24 then t == 2 || t == 3 else t == 0

theorem typed_some (op : Nat) : ops_typed.f op = some (typedB op) := by
  unfold ops_typed.f typedB
  by_cases h1 : op = 20
  · subst h1; rfl
  by_cases h2 : op = 21
  · subst h2; rfl
  rw [if_neg (by omega), if_neg (by omega)]
  by_cases h3 : op = 24
  · subst h3; rfl
  · have e1 : (op == 20) = false := by simpa using h1
    have e2 : (op == 21) = false := by simpa using h2
    have e3 : (op == 24) = false := by simpa using h3
    have e4 : ((op : Int) == 24) = false := beq_eq_false_iff_ne.mpr (by omega)
    rw [e1, e2, e3, e4]; rfl

theorem letter_some (t : Nat) : ops_Letter.f t = some (letterB t) := by
  unfold ops_Letter.f letterB
  by_cases h1 : t = 1
  · subst h1; rfl
  by_cases h2 : t = 2
  · subst h2; rfl
  by_cases h3 : t = 3
  · subst h3; rfl
  rw [if_neg (by omega), if_neg (by omega), if_neg (by omega), if_neg h1, if_neg h2, if_neg h3]

theorem beq_nat (a b : Nat) : ((a : Int) == (b : Int)) = (a == b) := by
  by_cases h : a = b
  · subst h; simp
  · have e1 : (a == b) = false := by simpa using h
    rw [e1]; exact beq_eq_false_iff_ne.mpr (by omega)

theorem may_some (op t : Nat) : ops_May.f op t = some (mayB op t) := by
  unfold ops_May.f mayB
  have b1 : ((t : Int) == 1) = (t == 1) := beq_nat t 1
  have b2 : ((t : Int) == 2) = (t == 2) := beq_nat t 2
  have b3 : ((t : Int) == 3) = (t == 3) := beq_nat t 3
  have b0 : ((t : Int) == 0) = (t == 0) := beq_nat t 0
  have o20 : ((op : Int) = 20) = (op = 20) := propext (by omega)
  have o21 : ((op : Int) = 21) = (op = 21) := propext (by omega)
  have o24 : ((op : Int) = 24) = (op = 24) := propext (by omega)
  have t0 : ((t : Int) = 0) = (t = 0) := propext (by omega)
  have t1 : ((t : Int) = 1) = (t = 1) := propext (by omega)
  have t2 : ((t : Int) = 2) = (t = 2) := propext (by omega)
  simp only [b0, b2, b3, o20, o21, o24, t0, t1, t2]
  by_cases h1 : op = 20 <;> by_cases h2 : op = 21 <;> by_cases h3 : op = 24 <;> by_cases g0 : t = 0 <;> by_cases g1 : t = 1 <;> by_cases g2 : t = 2 <;> first | (exfalso; omega) | simp [h1, h2, h3, g0, g1, g2]

/-- Of a word with a type: from type t on. -/
def typeFrom (s w : ByteArray) (op : Nat) : Nat → Nat → Option (Int × Int)
  | 0, _ => none
  | d + 1, t => if ((w ++ (⟨#[46]⟩ : ByteArray) ++ letterB t).toList == s.toList) = true ∧ mayB op t = true then some (op, t) else typeFrom s w op d (t + 1)
/-- Of one operation. -/
def findOne (s w : ByteArray) (op : Nat) : Option (Int × Int) := if w.toList.isEmpty = true then none else if typedB op = true then typeFrom s w op 4 0 else if (w.toList == s.toList) = true then some (op, 0) else none
def findFrom (s : ByteArray) : Nat → Nat → Int × Int
  | 0, _ => (0, 0)
  | d + 1, op => match findOne s (opRows.getD op noRow).w op with | some r => r | none => findFrom s d (op + 1)
def ops_Find.f (a0 : ByteArray) : Option (Int × Int) := some (findFrom a0 30 0)

set_option maxHeartbeats 2000000 in
set_option maxRecDepth 100000 in
theorem ops_Find.calls (a0 : ByteArray) (r1 r2 : Int) (w : World) (h : ops_Find.f a0 = some (r1, r2)) :
    Calls Try.prog 56 #[.string a0] w fun e w' => e = .returned (.tuple #[.int .i64 r1, .int .i64 r2]) ∧ Below w.heap.size w w' := by
  have hR : findFrom a0 30 0 = (r1, r2) := Option.some.inj h
  clear h
  have HR := Aside0.mk hR
  clear hR
  have hix := fun n hn W => run_index_rows n hn W
  go_enter Try.func56, Try.ntmps56
  go_wp2_with fail
  refine (ops_rows.calls _).mono ?_
  rintro e w0 ⟨rfl, hb⟩
  have HB0 := Aside0.mk hb
  clear hb
  go_wp2
  go_loopg [8] 30 (fun kq v8 w' => ∃ i : Nat, v8 = .int .i64 i ∧ Aside0 (i ≤ 30) ∧ Aside0 (findFrom a0 (30 - i) i = (r1, r2)) ∧ Aside0 (Below w.heap.size w w') ∧ Aside0 (kq = 30 - i))
  case atStart => exact ⟨0, rfl, ⟨by omega⟩, HR, HB0, ⟨rfl⟩⟩
  case round =>
    obtain ⟨i, rfl, HI, HF, HB, HK⟩ := hrel
    clear HR HB0
    have hi := HI.out
    by_cases hi2 : i < 30
    · have hd : decide ((i : Int) < 30) = true := decide_eq_true (by omega)
      have hix1 := fun W => hix i hi2 W
      have hE := HF.out
      rw [show 30 - i = (29 - i) + 1 by omega, findFrom] at hE
      obtain ⟨o, ho⟩ : ∃ o, opRows.getD i noRow = o := ⟨_, rfl⟩
      rw [ho] at hE
      have hix2 : ∀ W, (Instr.index 90 (.agg rowsV) (.int .i64 i)).run Try.prog W = .ok (.agg (rowCells o).toArray) W := fun W => ho ▸ run_index_rows i hi2 W
      have HE := Aside0.mk hE
      have hsz : o.w.size ≤ 10 := by
        have key : ∀ n, n < 30 → (opRows.getD n noRow).w.size ≤ 10 := by decide +kernel
        rw [← ho]; exact key i hi2
      have HZ := Aside0.mk hsz
      clear hE HF ho hix hix1 hsz
      have HB1 := Aside0.mk (below_alloc HB.out (.cells (rowCells o).toArray 87))
      have c0 : (wr.alloc (.cells (rowCells o).toArray 87)).cell? ⟨wr.heap.size, 0, none⟩ = some (.string o.w) := (blk_cell (blk_new wr _) 0).trans rfl
      have HC := Aside0.mk c0
      clear c0
      by_cases he : o.w.toList.isEmpty = true
      · have HN := Aside0.mk (show findFrom a0 (29 - i) (i + 1) = (r1, r2) by have h9 := HE.out; unfold findOne at h9; rw [if_pos he] at h9; exact h9)
        clear HE
        go_wp2_with (first | ((with_reducible refine gate_store (t := 87) (p := 5) (v := .tmp 11) rfl ?_); refine wpList_store_new rfl 87 (.tmp 5) (.tmp 11) rfl (rowCells noRow).toArray (rowCells o).toArray rfl rfl 87 (by kernel_rfl) rfl (by simp [rowCells, Value.oneCell']) ?_; have c0 := HC.out; generalize wr.alloc (.cells (rowCells o).toArray 87) = wa at *))
        go_roundg (29 - i)
        case measure => have := HK.out; omega
        case rel => exact ⟨i + 1, by simp, ⟨by omega⟩, ⟨by rw [show 30 - (i + 1) = 29 - i by omega]; exact HN.out⟩, HB1, ⟨by omega⟩⟩
      · have he2 : o.w.toList.isEmpty = false := by simpa using he
        have HN := Aside0.mk (show (match (if typedB i = true then typeFrom a0 o.w i 4 0 else if (o.w.toList == a0.toList) = true then some ((i : Int), (0 : Int)) else none) with | some r => r | none => findFrom a0 (29 - i) (i + 1)) = (r1, r2) by have h9 := HE.out; unfold findOne at h9; rw [if_neg he] at h9; exact h9)
        clear HE he
        go_wp2_with (first | ((with_reducible refine gate_store (t := 87) (p := 5) (v := .tmp 11) rfl ?_); refine wpList_store_new rfl 87 (.tmp 5) (.tmp 11) rfl (rowCells noRow).toArray (rowCells o).toArray rfl rfl 87 (by kernel_rfl) rfl (by simp [rowCells, Value.oneCell']) ?_; have c0 := HC.out; generalize wr.alloc (.cells (rowCells o).toArray 87) = wa at *))
        go_wp2_with fail
        refine (ops_typed.calls i (typedB i) _ (typed_some i)).mono ?_
        rintro e w1 ⟨rfl, ⟨n1, rfl⟩⟩
        have HB2 := Aside0.mk (pw_below_drewN HB1.out n1)
        have c1 : (wa.drewN n1).cell? ⟨wr.heap.size, 0, none⟩ = some (.string o.w) := c0
        generalize wa.drewN n1 = wb at *
        clear c0 HC
        by_cases ht : typedB i = true
        · have h9 := HN.out
          rw [if_pos ht] at h9
          have HN := Aside0.mk h9
          clear h9
          rw [ht]
          clear HB HB1
          generalize wr.heap.size = g at *
          go_wp2_with fail
          refine (ops_typed.calls i (typedB i) _ (typed_some i)).mono ?_
          rintro e w1 ⟨rfl, ⟨n1, rfl⟩⟩
          have HB3 := Aside0.mk (pw_below_drewN HB2.out n1)
          have c2 : (wb.drewN n1).cell? ⟨g, 0, none⟩ = some (.string o.w) := c1
          generalize wb.drewN n1 = wc at *
          have HC2 := Aside0.mk c2
          clear c1 c2 HB2
          rw [ht]
          go_wp2
          go_loopg [6] 4 (fun kq v6 w' => ∃ t : Nat, v6 = .int .i64 t ∧ Aside0 (t ≤ 4) ∧ Aside0 ((match typeFrom a0 o.w i (4 - t) t with | some r => r | none => findFrom a0 (29 - i) (i + 1)) = (r1, r2)) ∧ Aside0 (w'.cell? ⟨g, 0, none⟩ = some (.string o.w)) ∧ Aside0 (Below w.heap.size w w') ∧ Aside0 (kq = 4 - t))
          case atStart => exact ⟨0, rfl, ⟨by omega⟩, HN, HC2, HB3, ⟨rfl⟩⟩
          case round =>
            obtain ⟨t, rfl, HTI, HM, HCC, HBB, HKK⟩ := hrel
            clear HN HC2 HB3
            have hti := HTI.out
            by_cases ht4 : t < 4
            · have hdt : decide ((t : Int) ≤ 3) = true := decide_eq_true (by omega)
              have cc := HCC.out
              have hz := HZ.out
              have hb1 : (9223372036854775807 < o.w.size + 1) = False := eq_false (by omega)
              clear hz
              have hls : (letterB t).size = 1 := by unfold letterB; repeat' split
                                                    all_goals rfl
              have hb2 : (9223372036854775807 < o.w.size + 1 + (letterB t).size) = False := eq_false (by have := HZ.out; omega)
              clear hls
              have h9 := HM.out
              rw [show 4 - t = (3 - t) + 1 by omega, typeFrom] at h9
              clear HM
              by_cases hq : ((o.w ++ (⟨#[46]⟩ : ByteArray) ++ letterB t).toList == a0.toList) = true
              · by_cases hm : mayB i t = true
                · rw [if_pos ⟨hq, hm⟩] at h9
                  obtain ⟨rfl, rfl⟩ := Prod.mk.inj (show ((i : Int), (t : Int)) = (r1, r2) from h9)
                  clear h9
                  go_upto_region 11 with (fail)
                  refine start_ (n := 13) (S := fun w' => w'.cell? ⟨g, 0, none⟩ = some (.string o.w)) (ds := []) #[false, false, false, false, false, false, false, false, false, false, false, false, false] (by kernel_rfl) rfl rfl (cc) (fun hHeld => ?_)
                  refine pure_ (i := 0) (N := some 34) (v := ?_) (a' := ?_) #[true, false, false, false, false, false, false, false, false, false, false, false, false] rfl rfl (by kernel_rfl) (fun _ _ _ h => h) (Or.inl ⟨by rfl, ?_⟩) ?_ ?_
                  rotate_left
                  · intro w'
                    go_simp
                    with_reducible rfl
                  rotate_left
                  · simp only [Act.put, List.setIfInBounds_toArray, List.set_cons_zero, List.set_cons_succ, i64_w, i32_w]
                    rfl
                  refine pure_ (i := 3) (N := some 37) (v := ?_) (a' := ?_) #[true, false, false, true, false, false, false, false, false, false, false, false, false] rfl rfl (by kernel_rfl) (fun _ _ _ h => h) (Or.inl ⟨by rfl, ?_⟩) ?_ ?_
                  rotate_left
                  · intro w'
                    go_simp
                    with_reducible rfl
                  rotate_left
                  · simp only [Act.put, List.setIfInBounds_toArray, List.set_cons_zero, List.set_cons_succ, i64_w, i32_w]
                    rfl
                  refine pure_ (i := 6) (N := some 40) (v := ?_) (a' := ?_) #[true, false, false, true, false, false, true, false, false, false, false, false, false] rfl rfl (by kernel_rfl) (fun _ _ _ h => h) (Or.inl ⟨by rfl, ?_⟩) ?_ ?_
                  rotate_left
                  · intro w'
                    go_simp
                    with_reducible rfl
                  rotate_left
                  · simp only [Act.put, List.setIfInBounds_toArray, List.set_cons_zero, List.set_cons_succ, i64_w, i32_w]
                    rfl
                  refine take_ (i := 1) (N := some 35) (v := ?_) (a' := ?_) #[true, true, false, true, false, false, true, false, false, false, false, false, false] rfl rfl (by kernel_rfl) (fun _ _ _ h => h) (Or.inl ⟨by rfl, ?_⟩) hHeld ?_ ?_
                  rotate_left
                  · intro w' s0
                    go_simp
                    with_reducible rfl
                  rotate_left
                  · simp only [Act.put, List.setIfInBounds_toArray, List.set_cons_zero, List.set_cons_succ, i64_w, i32_w]
                    rfl
                  refine pure_ (i := 2) (N := some 36) (v := ?_) (a' := ?_) #[true, true, true, true, false, false, true, false, false, false, false, false, false] rfl rfl (by kernel_rfl) (fun _ _ _ h => h) (Or.inl ⟨by rfl, ?_⟩) ?_ ?_
                  rotate_left
                  · intro w'
                    go_simp
                    with_reducible rfl
                  rotate_left
                  · simp only [Act.put, List.setIfInBounds_toArray, List.set_cons_zero, List.set_cons_succ, i64_w, i32_w]
                    rfl
                  refine one_ (i := 4) (N := some 38) #[true, true, true, true, true, false, true, false, false, false, false, false, false] rfl rfl (by kernel_rfl) (by decide) (fun K hK => ?_)
                  refine goes_ Try.func35 (by kernel_rfl) rfl #[.int .i64 t] (by rfl) rfl rfl (by simp only [List.map_toArray, List.map_cons, List.map_nil]; rfl) ?_
                  with_reducible refine (ops_Letter.calls t (letterB t) _ (letter_some t)).mono ?_
                  rintro e w4 ⟨rfl, ⟨n4, rfl⟩⟩
                  refine ⟨_, rfl, ?_⟩
                  refine hK.out _ _ (cc) (fun hHeld => ?_)
                  clear hK K
                  refine norm_ (a' := ?_) ?_ ?_
                  rotate_left
                  · show Act.put _ (some 38) _ = _
                    simp only [Act.put, List.setIfInBounds_toArray, List.set_cons_zero, List.set_cons_succ, i64_w, i32_w]
                    rfl
                  refine pure_ (i := 5) (N := some 39) (v := ?_) (a' := ?_) #[true, true, true, true, true, true, true, false, false, false, false, false, false] rfl rfl (by kernel_rfl) (fun _ _ _ h => h) (Or.inl ⟨by rfl, ?_⟩) ?_ ?_
                  rotate_left
                  · intro w'
                    go_simp
                    with_reducible rfl
                  rotate_left
                  · simp only [Act.put, List.setIfInBounds_toArray, List.set_cons_zero, List.set_cons_succ, i64_w, i32_w]
                    rfl
                  refine pure_ (i := 7) (N := some 41) (v := ?_) (a' := ?_) #[true, true, true, true, true, true, true, true, false, false, false, false, false] rfl rfl (by kernel_rfl) (fun _ _ _ h => h) (Or.inl ⟨by rfl, ?_⟩) ?_ ?_
                  rotate_left
                  · intro w'
                    go_simp
                    with_reducible rfl
                  rotate_left
                  · simp only [Act.put, List.setIfInBounds_toArray, List.set_cons_zero, List.set_cons_succ, i64_w, i32_w]
                    rfl
                  refine pure_ (i := 8) (N := some 42) (v := ?_) (a' := ?_) #[true, true, true, true, true, true, true, true, true, false, false, false, false] rfl rfl (by kernel_rfl) (fun _ _ _ h => h) (Or.inl ⟨by rfl, ?_⟩) ?_ ?_
                  rotate_left
                  · intro w'
                    go_simp
                    with_reducible rfl
                  rotate_left
                  · simp only [Act.put, List.setIfInBounds_toArray, List.set_cons_zero, List.set_cons_succ, i64_w, i32_w]
                    rfl
                  refine pure_ (i := 9) (N := some 43) (v := ?_) (a' := ?_) #[true, true, true, true, true, true, true, true, true, true, false, false, false] rfl rfl (by kernel_rfl) (fun _ _ _ h => h) (Or.inl ⟨by rfl, ?_⟩) ?_ ?_
                  rotate_left
                  · intro w'
                    go_simp
                    with_reducible rfl
                  rotate_left
                  · simp only [Act.put, List.setIfInBounds_toArray, List.set_cons_zero, List.set_cons_succ, i64_w, i32_w]
                    rfl
                  refine pure_ (i := 10) (N := some 44) (v := ?_) (a' := ?_) #[true, true, true, true, true, true, true, true, true, true, true, false, false] rfl rfl (by kernel_rfl) (fun _ _ _ h => h) (Or.inl ⟨by rfl, ?_⟩) ?_ ?_
                  rotate_left
                  · intro w'
                    go_simp
                    with_reducible rfl
                  rotate_left
                  · simp only [Act.put, List.setIfInBounds_toArray, List.set_cons_zero, List.set_cons_succ, i64_w, i32_w]
                    rfl
                  refine one_ (i := 11) (N := some 45) #[true, true, true, true, true, true, true, true, true, true, true, true, false] rfl rfl (by kernel_rfl) (by decide) (fun K hK => ?_)
                  refine goes_ Try.func37 (by kernel_rfl) rfl #[.int .i64 i, .int .i64 t] (by rfl) rfl rfl (by simp only [List.map_toArray, List.map_cons, List.map_nil]; rfl) ?_
                  with_reducible refine (ops_May.calls i t (mayB i t) _ (may_some i t)).mono ?_
                  rintro e w5 ⟨rfl, ⟨n5, rfl⟩⟩
                  refine ⟨_, rfl, ?_⟩
                  refine hK.out _ _ (cc) (fun hHeld => ?_)
                  clear hK K
                  refine norm_ (a' := ?_) ?_ ?_
                  rotate_left
                  · show Act.put _ (some 45) _ = _
                    simp only [Act.put, List.setIfInBounds_toArray, List.set_cons_zero, List.set_cons_succ, i64_w, i32_w]
                    rfl
                  refine pure_ (i := 12) (N := some 46) (v := ?_) (a' := ?_) #[true, true, true, true, true, true, true, true, true, true, true, true, true] rfl rfl (by kernel_rfl) (fun _ _ _ h => h) (Or.inl ⟨by rfl, ?_⟩) ?_ ?_
                  rotate_left
                  · intro w'
                    go_simp
                    with_reducible rfl
                  rotate_left
                  · simp only [Act.put, List.setIfInBounds_toArray, List.set_cons_zero, List.set_cons_succ, i64_w, i32_w]
                    rfl
                  refine done_ (by kernel_rfl) ?_
                  go_wp2
                  go_ret2
                  exact ⟨rfl, pw_below_drewN (pw_below_drewN (below_drew HBB.out) _) _⟩
                · rw [if_neg (fun e => hm e.2)] at h9
                  have HM2 := Aside0.mk h9
                  have hm2 : mayB i t = false := by simpa using hm
                  clear h9 hm
                  go_upto_region 11 with (fail)
                  refine start_ (n := 13) (S := fun w' => w'.cell? ⟨g, 0, none⟩ = some (.string o.w)) (ds := []) #[false, false, false, false, false, false, false, false, false, false, false, false, false] (by kernel_rfl) rfl rfl (cc) (fun hHeld => ?_)
                  refine pure_ (i := 0) (N := some 34) (v := ?_) (a' := ?_) #[true, false, false, false, false, false, false, false, false, false, false, false, false] rfl rfl (by kernel_rfl) (fun _ _ _ h => h) (Or.inl ⟨by rfl, ?_⟩) ?_ ?_
                  rotate_left
                  · intro w'
                    go_simp
                    with_reducible rfl
                  rotate_left
                  · simp only [Act.put, List.setIfInBounds_toArray, List.set_cons_zero, List.set_cons_succ, i64_w, i32_w]
                    rfl
                  refine pure_ (i := 3) (N := some 37) (v := ?_) (a' := ?_) #[true, false, false, true, false, false, false, false, false, false, false, false, false] rfl rfl (by kernel_rfl) (fun _ _ _ h => h) (Or.inl ⟨by rfl, ?_⟩) ?_ ?_
                  rotate_left
                  · intro w'
                    go_simp
                    with_reducible rfl
                  rotate_left
                  · simp only [Act.put, List.setIfInBounds_toArray, List.set_cons_zero, List.set_cons_succ, i64_w, i32_w]
                    rfl
                  refine pure_ (i := 6) (N := some 40) (v := ?_) (a' := ?_) #[true, false, false, true, false, false, true, false, false, false, false, false, false] rfl rfl (by kernel_rfl) (fun _ _ _ h => h) (Or.inl ⟨by rfl, ?_⟩) ?_ ?_
                  rotate_left
                  · intro w'
                    go_simp
                    with_reducible rfl
                  rotate_left
                  · simp only [Act.put, List.setIfInBounds_toArray, List.set_cons_zero, List.set_cons_succ, i64_w, i32_w]
                    rfl
                  refine take_ (i := 1) (N := some 35) (v := ?_) (a' := ?_) #[true, true, false, true, false, false, true, false, false, false, false, false, false] rfl rfl (by kernel_rfl) (fun _ _ _ h => h) (Or.inl ⟨by rfl, ?_⟩) hHeld ?_ ?_
                  rotate_left
                  · intro w' s0
                    go_simp
                    with_reducible rfl
                  rotate_left
                  · simp only [Act.put, List.setIfInBounds_toArray, List.set_cons_zero, List.set_cons_succ, i64_w, i32_w]
                    rfl
                  refine pure_ (i := 2) (N := some 36) (v := ?_) (a' := ?_) #[true, true, true, true, false, false, true, false, false, false, false, false, false] rfl rfl (by kernel_rfl) (fun _ _ _ h => h) (Or.inl ⟨by rfl, ?_⟩) ?_ ?_
                  rotate_left
                  · intro w'
                    go_simp
                    with_reducible rfl
                  rotate_left
                  · simp only [Act.put, List.setIfInBounds_toArray, List.set_cons_zero, List.set_cons_succ, i64_w, i32_w]
                    rfl
                  refine one_ (i := 4) (N := some 38) #[true, true, true, true, true, false, true, false, false, false, false, false, false] rfl rfl (by kernel_rfl) (by decide) (fun K hK => ?_)
                  refine goes_ Try.func35 (by kernel_rfl) rfl #[.int .i64 t] (by rfl) rfl rfl (by simp only [List.map_toArray, List.map_cons, List.map_nil]; rfl) ?_
                  with_reducible refine (ops_Letter.calls t (letterB t) _ (letter_some t)).mono ?_
                  rintro e w4 ⟨rfl, ⟨n4, rfl⟩⟩
                  refine ⟨_, rfl, ?_⟩
                  refine hK.out _ _ (cc) (fun hHeld => ?_)
                  clear hK K
                  refine norm_ (a' := ?_) ?_ ?_
                  rotate_left
                  · show Act.put _ (some 38) _ = _
                    simp only [Act.put, List.setIfInBounds_toArray, List.set_cons_zero, List.set_cons_succ, i64_w, i32_w]
                    rfl
                  refine pure_ (i := 5) (N := some 39) (v := ?_) (a' := ?_) #[true, true, true, true, true, true, true, false, false, false, false, false, false] rfl rfl (by kernel_rfl) (fun _ _ _ h => h) (Or.inl ⟨by rfl, ?_⟩) ?_ ?_
                  rotate_left
                  · intro w'
                    go_simp
                    with_reducible rfl
                  rotate_left
                  · simp only [Act.put, List.setIfInBounds_toArray, List.set_cons_zero, List.set_cons_succ, i64_w, i32_w]
                    rfl
                  refine pure_ (i := 7) (N := some 41) (v := ?_) (a' := ?_) #[true, true, true, true, true, true, true, true, false, false, false, false, false] rfl rfl (by kernel_rfl) (fun _ _ _ h => h) (Or.inl ⟨by rfl, ?_⟩) ?_ ?_
                  rotate_left
                  · intro w'
                    go_simp
                    with_reducible rfl
                  rotate_left
                  · simp only [Act.put, List.setIfInBounds_toArray, List.set_cons_zero, List.set_cons_succ, i64_w, i32_w]
                    rfl
                  refine pure_ (i := 8) (N := some 42) (v := ?_) (a' := ?_) #[true, true, true, true, true, true, true, true, true, false, false, false, false] rfl rfl (by kernel_rfl) (fun _ _ _ h => h) (Or.inl ⟨by rfl, ?_⟩) ?_ ?_
                  rotate_left
                  · intro w'
                    go_simp
                    with_reducible rfl
                  rotate_left
                  · simp only [Act.put, List.setIfInBounds_toArray, List.set_cons_zero, List.set_cons_succ, i64_w, i32_w]
                    rfl
                  refine pure_ (i := 9) (N := some 43) (v := ?_) (a' := ?_) #[true, true, true, true, true, true, true, true, true, true, false, false, false] rfl rfl (by kernel_rfl) (fun _ _ _ h => h) (Or.inl ⟨by rfl, ?_⟩) ?_ ?_
                  rotate_left
                  · intro w'
                    go_simp
                    with_reducible rfl
                  rotate_left
                  · simp only [Act.put, List.setIfInBounds_toArray, List.set_cons_zero, List.set_cons_succ, i64_w, i32_w]
                    rfl
                  refine pure_ (i := 10) (N := some 44) (v := ?_) (a' := ?_) #[true, true, true, true, true, true, true, true, true, true, true, false, false] rfl rfl (by kernel_rfl) (fun _ _ _ h => h) (Or.inl ⟨by rfl, ?_⟩) ?_ ?_
                  rotate_left
                  · intro w'
                    go_simp
                    with_reducible rfl
                  rotate_left
                  · simp only [Act.put, List.setIfInBounds_toArray, List.set_cons_zero, List.set_cons_succ, i64_w, i32_w]
                    rfl
                  refine one_ (i := 11) (N := some 45) #[true, true, true, true, true, true, true, true, true, true, true, true, false] rfl rfl (by kernel_rfl) (by decide) (fun K hK => ?_)
                  refine goes_ Try.func37 (by kernel_rfl) rfl #[.int .i64 i, .int .i64 t] (by rfl) rfl rfl (by simp only [List.map_toArray, List.map_cons, List.map_nil]; rfl) ?_
                  with_reducible refine (ops_May.calls i t (mayB i t) _ (may_some i t)).mono ?_
                  rintro e w5 ⟨rfl, ⟨n5, rfl⟩⟩
                  refine ⟨_, rfl, ?_⟩
                  refine hK.out _ _ (cc) (fun hHeld => ?_)
                  clear hK K
                  refine norm_ (a' := ?_) ?_ ?_
                  rotate_left
                  · show Act.put _ (some 45) _ = _
                    simp only [Act.put, List.setIfInBounds_toArray, List.set_cons_zero, List.set_cons_succ, i64_w, i32_w]
                    rfl
                  refine pure_ (i := 12) (N := some 46) (v := ?_) (a' := ?_) #[true, true, true, true, true, true, true, true, true, true, true, true, true] rfl rfl (by kernel_rfl) (fun _ _ _ h => h) (Or.inl ⟨by rfl, ?_⟩) ?_ ?_
                  rotate_left
                  · intro w'
                    go_simp
                    with_reducible rfl
                  rotate_left
                  · simp only [Act.put, List.setIfInBounds_toArray, List.set_cons_zero, List.set_cons_succ, i64_w, i32_w]
                    rfl
                  refine done_ (by kernel_rfl) ?_
                  go_wp2
                  go_roundg (3 - t)
                  case measure => have := HKK.out; omega
                  case rel => exact ⟨t + 1, by simp, ⟨by omega⟩, ⟨by rw [show 4 - (t + 1) = 3 - t by omega]; exact HM2.out⟩, ⟨HCC.out⟩, ⟨pw_below_drewN HBB.out _⟩, ⟨by omega⟩⟩
              · rw [if_neg (fun e => hq e.1)] at h9
                have HM2 := Aside0.mk h9
                have hq2 : ((o.w ++ (⟨#[46]⟩ : ByteArray) ++ letterB t).toList == a0.toList) = false := by simpa using hq
                clear h9 hq
                go_upto_region 11 with (fail)
                refine start_ (n := 13) (S := fun w' => w'.cell? ⟨g, 0, none⟩ = some (.string o.w)) (ds := []) #[false, false, false, false, false, false, false, false, false, false, false, false, false] (by kernel_rfl) rfl rfl (cc) (fun hHeld => ?_)
                refine pure_ (i := 0) (N := some 34) (v := ?_) (a' := ?_) #[true, false, false, false, false, false, false, false, false, false, false, false, false] rfl rfl (by kernel_rfl) (fun _ _ _ h => h) (Or.inl ⟨by rfl, ?_⟩) ?_ ?_
                rotate_left
                · intro w'
                  go_simp
                  with_reducible rfl
                rotate_left
                · simp only [Act.put, List.setIfInBounds_toArray, List.set_cons_zero, List.set_cons_succ, i64_w, i32_w]
                  rfl
                refine pure_ (i := 3) (N := some 37) (v := ?_) (a' := ?_) #[true, false, false, true, false, false, false, false, false, false, false, false, false] rfl rfl (by kernel_rfl) (fun _ _ _ h => h) (Or.inl ⟨by rfl, ?_⟩) ?_ ?_
                rotate_left
                · intro w'
                  go_simp
                  with_reducible rfl
                rotate_left
                · simp only [Act.put, List.setIfInBounds_toArray, List.set_cons_zero, List.set_cons_succ, i64_w, i32_w]
                  rfl
                refine pure_ (i := 6) (N := some 40) (v := ?_) (a' := ?_) #[true, false, false, true, false, false, true, false, false, false, false, false, false] rfl rfl (by kernel_rfl) (fun _ _ _ h => h) (Or.inl ⟨by rfl, ?_⟩) ?_ ?_
                rotate_left
                · intro w'
                  go_simp
                  with_reducible rfl
                rotate_left
                · simp only [Act.put, List.setIfInBounds_toArray, List.set_cons_zero, List.set_cons_succ, i64_w, i32_w]
                  rfl
                refine take_ (i := 1) (N := some 35) (v := ?_) (a' := ?_) #[true, true, false, true, false, false, true, false, false, false, false, false, false] rfl rfl (by kernel_rfl) (fun _ _ _ h => h) (Or.inl ⟨by rfl, ?_⟩) hHeld ?_ ?_
                rotate_left
                · intro w' s0
                  go_simp
                  with_reducible rfl
                rotate_left
                · simp only [Act.put, List.setIfInBounds_toArray, List.set_cons_zero, List.set_cons_succ, i64_w, i32_w]
                  rfl
                refine pure_ (i := 2) (N := some 36) (v := ?_) (a' := ?_) #[true, true, true, true, false, false, true, false, false, false, false, false, false] rfl rfl (by kernel_rfl) (fun _ _ _ h => h) (Or.inl ⟨by rfl, ?_⟩) ?_ ?_
                rotate_left
                · intro w'
                  go_simp
                  with_reducible rfl
                rotate_left
                · simp only [Act.put, List.setIfInBounds_toArray, List.set_cons_zero, List.set_cons_succ, i64_w, i32_w]
                  rfl
                refine one_ (i := 4) (N := some 38) #[true, true, true, true, true, false, true, false, false, false, false, false, false] rfl rfl (by kernel_rfl) (by decide) (fun K hK => ?_)
                refine goes_ Try.func35 (by kernel_rfl) rfl #[.int .i64 t] (by rfl) rfl rfl (by simp only [List.map_toArray, List.map_cons, List.map_nil]; rfl) ?_
                with_reducible refine (ops_Letter.calls t (letterB t) _ (letter_some t)).mono ?_
                rintro e w4 ⟨rfl, ⟨n4, rfl⟩⟩
                refine ⟨_, rfl, ?_⟩
                refine hK.out _ _ (cc) (fun hHeld => ?_)
                clear hK K
                refine norm_ (a' := ?_) ?_ ?_
                rotate_left
                · show Act.put _ (some 38) _ = _
                  simp only [Act.put, List.setIfInBounds_toArray, List.set_cons_zero, List.set_cons_succ, i64_w, i32_w]
                  rfl
                refine pure_ (i := 5) (N := some 39) (v := ?_) (a' := ?_) #[true, true, true, true, true, true, true, false, false, false, false, false, false] rfl rfl (by kernel_rfl) (fun _ _ _ h => h) (Or.inl ⟨by rfl, ?_⟩) ?_ ?_
                rotate_left
                · intro w'
                  go_simp
                  with_reducible rfl
                rotate_left
                · simp only [Act.put, List.setIfInBounds_toArray, List.set_cons_zero, List.set_cons_succ, i64_w, i32_w]
                  rfl
                refine pure_ (i := 7) (N := some 41) (v := ?_) (a' := ?_) #[true, true, true, true, true, true, true, true, false, false, false, false, false] rfl rfl (by kernel_rfl) (fun _ _ _ h => h) (Or.inl ⟨by rfl, ?_⟩) ?_ ?_
                rotate_left
                · intro w'
                  go_simp
                  with_reducible rfl
                rotate_left
                · simp only [Act.put, List.setIfInBounds_toArray, List.set_cons_zero, List.set_cons_succ, i64_w, i32_w]
                  rfl
                refine pure_ (i := 8) (N := some 42) (v := ?_) (a' := ?_) #[true, true, true, true, true, true, true, true, true, false, false, false, false] rfl rfl (by kernel_rfl) (fun _ _ _ h => h) (Or.inl ⟨by rfl, ?_⟩) ?_ ?_
                rotate_left
                · intro w'
                  go_simp
                  with_reducible rfl
                rotate_left
                · simp only [Act.put, List.setIfInBounds_toArray, List.set_cons_zero, List.set_cons_succ, i64_w, i32_w]
                  rfl
                refine pure_ (i := 9) (N := some 43) (v := undef) (a' := ?_) #[true, true, true, true, true, true, true, true, true, true, false, false, false] rfl rfl (by kernel_rfl) (fun _ _ _ h => h) (Or.inr ⟨by rfl, rfl⟩) ?_ ?_
                rotate_left
                · simp only [Act.put, List.setIfInBounds_toArray, List.set_cons_zero, List.set_cons_succ, i64_w, i32_w]
                  rfl
                refine pure_ (i := 10) (N := some 44) (v := undef) (a' := ?_) #[true, true, true, true, true, true, true, true, true, true, true, false, false] rfl rfl (by kernel_rfl) (fun _ _ _ h => h) (Or.inr ⟨by rfl, rfl⟩) ?_ ?_
                rotate_left
                · simp only [Act.put, List.setIfInBounds_toArray, List.set_cons_zero, List.set_cons_succ, i64_w, i32_w]
                  rfl
                refine pure_ (i := 11) (N := some 45) (v := undef) (a' := ?_) #[true, true, true, true, true, true, true, true, true, true, true, true, false] rfl rfl (by kernel_rfl) (fun _ _ _ h => h) (Or.inr ⟨by rfl, rfl⟩) ?_ ?_
                rotate_left
                · simp only [Act.put, List.setIfInBounds_toArray, List.set_cons_zero, List.set_cons_succ, i64_w, i32_w]
                  rfl
                refine pure_ (i := 12) (N := some 46) (v := ?_) (a' := ?_) #[true, true, true, true, true, true, true, true, true, true, true, true, true] rfl rfl (by kernel_rfl) (fun _ _ _ h => h) (Or.inl ⟨by rfl, ?_⟩) ?_ ?_
                rotate_left
                · intro w'
                  go_simp
                  with_reducible rfl
                rotate_left
                · simp only [Act.put, List.setIfInBounds_toArray, List.set_cons_zero, List.set_cons_succ, i64_w, i32_w]
                  rfl
                refine done_ (by kernel_rfl) ?_
                go_wp2
                go_roundg (3 - t)
                case measure => have := HKK.out; omega
                case rel => exact ⟨t + 1, by simp, ⟨by omega⟩, ⟨by rw [show 4 - (t + 1) = 3 - t by omega]; exact HM2.out⟩, ⟨HCC.out⟩, ⟨pw_below_drewN HBB.out _⟩, ⟨by omega⟩⟩
            · have ht5 : t = 4 := by omega
              subst ht5
              have h9 := HM.out
              have HM2 := Aside0.mk (show findFrom a0 (29 - i) (i + 1) = (r1, r2) from h9)
              clear h9 HM
              go_wp2
              go_roundg (29 - i)
              case measure => have := HK.out; omega
              case rel => exact ⟨i + 1, by simp, ⟨by omega⟩, ⟨by rw [show 30 - (i + 1) = 29 - i by omega]; exact HM2.out⟩, HBB, ⟨by omega⟩⟩
        · have ht2 : typedB i = false := by simpa using ht
          have h9 := HN.out
          rw [if_neg ht] at h9
          rw [ht2]
          clear ht HN
          by_cases hs : (o.w.toList == a0.toList) = true
          · rw [if_pos hs] at h9
            obtain ⟨rfl, rfl⟩ := Prod.mk.inj (show ((i : Int), (0 : Int)) = (r1, r2) from h9)
            clear h9
            go_wp2
            go_ret2
            exact ⟨rfl, HB2.out⟩
          · rw [if_neg hs] at h9
            have hs2 : (o.w.toList == a0.toList) = false := by simpa using hs
            have HN := Aside0.mk (show findFrom a0 (29 - i) (i + 1) = (r1, r2) from h9)
            clear h9 hs
            go_wp2_with fail
            refine (ops_typed.calls i (typedB i) _ (typed_some i)).mono ?_
            rintro e w1 ⟨rfl, ⟨n1, rfl⟩⟩
            have HB3 := Aside0.mk (pw_below_drewN HB2.out n1)
            rw [ht2]
            go_wp2
            go_roundg (29 - i)
            case measure => have := HK.out; omega
            case rel => exact ⟨i + 1, by simp, ⟨by omega⟩, ⟨by rw [show 30 - (i + 1) = 29 - i by omega]; exact HN.out⟩, HB3, ⟨by omega⟩⟩
    · have hi3 : i = 30 := by omega
      subst hi3
      have hE := HF.out
      obtain ⟨rfl, rfl⟩ := Prod.mk.inj (show ((0, 0) : Int × Int) = (r1, r2) from hE)
      clear hE
      go_wp2
      go_ret2
      exact ⟨rfl, HB.out⟩
end Go.Proofs.Ytcpomchijogblaa.POp
