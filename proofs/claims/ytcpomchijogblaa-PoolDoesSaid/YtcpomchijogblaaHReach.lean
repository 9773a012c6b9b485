/- pool.Reach: the objects that are reached, in the order in which they are met. -/
import Derived.Test.YtcpomchijogblaaReachPure
namespace Go.Proofs.Ytcpomchijogblaa.PPo
open Go.RowKit Go.Proofs.YtcpomchijogblaaW.PrintWords Go.Proofs.YtcpomchijogblaaW.PrintLast Go.Proofs.YtcpomchijogblaaW.PrintMore Go.Proofs.Ytcpomchijogblaa.Str
set_option linter.unusedVariables false
set_option linter.unusedSimpArgs false

theorem madeB_cells (m : Nat) : madeCells #[.bool false] m = cellsB (List.replicate m false) := by
  apply Array.ext
  · simp [madeCells, cellsB]
  · intro i h1 h2
    simp [madeCells, cellsB, Nat.mod_one]
theorem rd_at_ (l : List Int) (i : Nat) (h : i < l.length) : rd l (i : Int) = l[i] := by
  unfold rd
  rw [List.getD_eq_getElem?_getD, Int.toNat_natCast, List.getElem?_eq_getElem h]
  rfl
theorem goS_step (L : List S73) (k i : Nat) (s : List Bool × List Int) (h : i < s.2.length) : goS L (k + 1) i s = goS L k (i + 1) (slotsS (L.getD (s.2.getD i 0 - 1).toNat z73).f0 (L.getD (s.2.getD i 0 - 1).toNat z73).f1 0 s) := if_pos h
theorem slotsS_step (x : S31) (c : List Int) (j : Nat) (s : List Bool × List Int) (h : j < c.length) : slotsS x (c.drop j) j s = slotsS x (c.drop (j + 1)) (j + 1) (if ptrB x.f0 x.f1 (j : Int) = true then visit s (c.getD j 0) else s) := by
  rw [List.drop_eq_getElem_cons h, List.getD_eq_getElem?_getD, List.getElem?_eq_getElem h]
  rfl
/-- What holds while Reach runs: what has been met, and the pool as it was. -/
structure ReachAt (w : World) (plo : Nat) (ok : Nat → Prop) (g : Nat) (v : Value) (bs : List Nat) (L : List S73) (n : Int) (s : List Bool × List Int) (w' : World) : Prop where
  vis : ∃ v1, VisD w.heap.size w' (w.heap.size + 1 + 1) (w.heap.size + 1) w.heap.size v1 s.1 s.2
  sok : SOk L.length s
  pool : PoolD plo ok w' g v bs L n
  bel : Below w.heap.size w w'
section
variable {plo : Nat} {ok : Nat → Prop} {g : Nat} {v : Value} {bs : List Nat} {L : List S73} {n : Int}
theorem VisD.below {lo : Nat} {W W' : World} {mb mk ob : Nat} {v : Value} {met : List Bool} {l : List Int} (h : VisD lo W mb mk ob v met l) (hb : Below W.heap.size W W') : VisD lo W' mb mk ob v met l :=
  ⟨blk_below h.hm hb, blk_below h.hk hb, blk_below h.ho hb, Kd.R_below h.row hb, h.gm, h.gk, h.go, h.ne⟩
theorem ReachAt.below {w w1 w2 : World} {s : List Bool × List Int} (h : ReachAt w plo ok g v bs L n s w1) (hb : Below w1.heap.size w1 w2) : ReachAt w plo ok g v bs L n s w2 :=
  ⟨h.vis.imp fun _ hv => hv.below hb, h.sok, h.pool.below hb, below_step h.bel hb⟩
theorem ReachAt.next {w w1 w2 : World} {s : List Bool × List Int} {id : Int} (h : ReachAt w plo ok g v bs L n s w1)
    (hv : ∃ v1, VisD w.heap.size w2 (w.heap.size + 1 + 1) (w.heap.size + 1) w.heap.size v1 (visit s id).1 (visit s id).2) (hb : Below w.heap.size w1 w2) (hk : VisKept w1 w2) : ReachAt w plo ok g v bs L n (visit s id) w2 :=
  ⟨hv, h.sok.visit id, h.pool.typed hk, h.bel.trans hb⟩
set_option maxHeartbeats 8000000 in
set_option maxRecDepth 100000 in
theorem pool_Reach.calls (A0 : Option Addr) (c0 : Nat) (l : List Int) (w : World) (hP : PoolD plo ok w g v bs L n) (hr0 : Kd.C (Kd.int .i64) w A0 l.length l) (hL : (L.length + 2) * 40 ≤ 140737488355328) :
    Calls Try.prog 18 #[.pointer (some ⟨g, 0, none⟩), .slice A0 l.length c0] w fun e w' => (∃ A, e = .returned (.slice A (reachP L l).length (reachP L l).length) ∧ Kd.C (Kd.int .i64) w' A (reachP L l).length (reachP L l)) ∧ Below w.heap.size w w' := by
  have hu70 := Try.underlying70
  have hu73 := Try.underlying73
  have hu31 := Try.underlying31
  obtain ⟨N, hN⟩ : ∃ N : Nat, N = L.length + 1 := ⟨_, rfl⟩
  have hmk := fun W => run_make_row' (P := Try.prog) 79 4 (.bool false) 1 Try.underlying79 (by kernel_rfl) rfl .i64 .i64 N (by omega) (by omega) W
  obtain ⟨A, c, rfl, hlc, hC⟩ := hP.objs
  have cg : (w.alloc (.cells #[.slice none 0 0] 40)).cell? ⟨g, 0, none⟩ = some (.slice A L.length c) := (blk_cell (blk_alloc hP.top _) 0).trans rfl
  have hw1 : IntKind.i64.wrap ((L.length : Int) + 1) = (N : Int) := by rw [i64_w, w64 (by omega) (by omega)]; omega
  have HN := Aside0.mk hN
  have HP := Aside0.mk hP
  have HR0 := Aside0.mk hr0
  have HLL := Aside0.mk hL
  clear hP hr0 hL hlc hC hN
  go_enter Try.func18, Try.ntmps18
  go_wp2
  go_loopg [24] l.length (fun kq v24 w' => ∃ i : Nat, v24 = .int .i64 i ∧ Aside0 (i ≤ l.length) ∧ Aside0 (ReachAt w plo ok g (.slice A L.length c) bs L n ((l.take i).foldl visit (List.replicate (L.length + 1) false, [])) w') ∧ Aside0 (kq = l.length - i))
  case atStart =>
    refine ⟨0, rfl, ⟨by omega⟩, ⟨?_⟩, ⟨rfl⟩⟩
    show ReachAt w plo ok g (.slice A L.length c) bs L n (List.replicate (L.length + 1) false, []) _
    have hb3 : Below w.heap.size w (((w.alloc (.cells #[.slice none 0 0] 40)).alloc (.cells (madeCells #[.bool false] N) 4)).alloc (.cells #[.slice (some ⟨w.heap.size + 1, 0, none⟩) N N] 79)) := below_alloc (below_alloc (below_alloc (Below.refl _ _) _) _) _
    refine ⟨⟨.slice none 0 0, ?_⟩, SOk.new _, HP.out.below hb3, hb3⟩
    have a1 := blk_new w (.cells #[.slice none 0 0] 40)
    have a2 := blk_new (w.alloc (.cells #[.slice none 0 0] 40)) (.cells (madeCells #[.bool false] N) 4)
    have a3 := blk_new ((w.alloc (.cells #[.slice none 0 0] 40)).alloc (.cells (madeCells #[.bool false] N) 4)) (.cells #[.slice (some ⟨w.heap.size + 1, 0, none⟩) N N] 79)
    simp only [World.size_alloc] at a2 a3
    rw [← HN.out]
    refine ⟨?_, ?_, blk_alloc (blk_alloc a1 _) _, Kd.R_nil _ _ _ _ _, by omega, by omega, Nat.le_refl _, by omega⟩
    · show _ = some (Obj.cells #[.slice (some ⟨w.heap.size + 1, 0, none⟩) (List.replicate N false).length (List.replicate N false).length] 79 (0, 0))
      rw [List.length_replicate]
      exact a3
    · rw [madeB_cells] at a2 ⊢
      exact blk_alloc a2 _
  case round =>
    obtain ⟨i, rfl, HI, HA, HK⟩ := hrel
    by_cases hi : i < l.length
    · have c0b : decide ((i : Int) < (l.length : Int)) = true := decide_eq_true (by omega)
      have c1b : decide (i < l.length) = true := decide_eq_true hi
      obtain ⟨ad, ea, hx⟩ := Kd.at_int (Kd.C_below HR0.out HA.out.bel) i (by omega) (by omega)
      cases ea
      rw [Int.toNat_natCast] at hx
      have p0 : (0 ≤ (i : Int)) = True := eq_true (by omega)
      have q0 : ((i : Int) < (l.length : Int)) = True := eq_true (by omega)
      have q1 : (i < l.length) = True := eq_true hi
      have hi9 : IntKind.i64.wrap ((i : Int) + 1) = ((i + 1 : Nat) : Int) := by have := HR0.out.2.1; rw [i64_w, w64 (by omega) (by omega)]; omega
      have hs := HA.out.sok.short
      have hsl := HA.out.sok.len
      obtain ⟨v1, hv⟩ := HA.out.vis
      have hcall := visit.calls (rd l i) wr hv HA.out.bel.size (by have := HLL.out; omega) (by have := HLL.out; omega)
      have hfold : (l.take (i + 1)).foldl visit (List.replicate (L.length + 1) false, []) = visit ((l.take i).foldl visit (List.replicate (L.length + 1) false, [])) (rd l i) := by
        rw [List.take_succ_eq_append_getElem hi, List.foldl_append, rd_at_ l i hi]
        rfl
      have HF := Aside0.mk hfold
      have HCl := Aside0.mk hcall
      have HI2 := Aside0.mk hi
      clear hi hs hsl hv hcall hfold
      go_wp2_with (go_at_call 60; refine HCl.out.mono ?_; rintro e w4 ⟨rfl, hv4, hb4, hk4⟩; have HA4 := Aside0.mk (HA.out.next hv4 hb4 hk4); clear hv4 hb4 hk4)
      go_roundg (l.length - (i + 1))
      case measure => have := HK.out; have := HI2.out; omega
      case rel => exact ⟨i + 1, by simp, ⟨by have := HI2.out; omega⟩, ⟨by rw [HF.out]; exact HA4.out⟩, ⟨rfl⟩⟩
    · have c0b : decide ((i : Int) < (l.length : Int)) = false := decide_eq_false (by omega)
      have c1b : decide (i < l.length) = false := decide_eq_false hi
      have hA := HA.out
      rw [List.take_of_length_le (by omega)] at hA
      have HA1 := Aside0.mk hA
      clear hA HA hi HI HK
      go_wp2_with fail
      go_loopg [10] (L.length + 2) (fun kq v10 w' => ∃ (i : Nat) (s : List Bool × List Int), v10 = .int .i64 i ∧ Aside0 (ReachAt w plo ok g (.slice A L.length c) bs L n s w') ∧ Aside0 ((goS L kq i s).2 = reachP L l) ∧ Aside0 (i + kq = L.length + 2))
      case atStart => exact ⟨0, _, rfl, ⟨HA1.out⟩, ⟨rfl⟩, ⟨by omega⟩⟩
      case round =>
        clear HA1
        obtain ⟨i, s, rfl, HA, HG, HK⟩ := hrel
        obtain ⟨v1, hv⟩ := HA.out.vis
        obtain ⟨A1, c1, hv1, hl1, hC1⟩ := Kd.R_reads hv.row
        subst hv1
        have cob : wr.cell? ⟨w.heap.size, 0, none⟩ = some (.slice A1 s.2.length c1) := (blk_cell hv.ho 0).trans rfl
        have HC1 := Aside0.mk hC1
        have HL1 := Aside0.mk hl1
        have HV := Aside0.mk hv
        clear hv hC1 hl1
        by_cases hi : i < s.2.length
        · have c0b : decide ((i : Int) < (s.2.length : Int)) = true := decide_eq_true (by omega)
          have c1b : decide (i < s.2.length) = true := decide_eq_true hi
          have hmem : s.2[i] ∈ s.2 := List.getElem_mem hi
          have hid := HA.out.sok.ids _ hmem
          rw [← rd_at_ s.2 i hi] at hid
          have hrd : rd s.2 (i : Int) = s.2.getD i 0 := by unfold rd; rw [Int.toNat_natCast]
          obtain ⟨ad1, ea1, hx1⟩ := Kd.at_int HC1.out i (by omega) (by omega)
          cases ea1
          rw [Int.toNat_natCast] at hx1
          have p0 : (0 ≤ (i : Int)) = True := eq_true (by omega)
          have q0 : ((i : Int) < (s.2.length : Int)) = True := eq_true (by omega)
          have q1 : (i < s.2.length) = True := eq_true hi
          have HRd := Aside0.mk hrd
          generalize rd s.2 i = id at hid hx1 HRd
          obtain ⟨j, hj⟩ : ∃ j : Int, id - 1 = j := ⟨_, rfl⟩
          have hjt : j.toNat < L.length := by omega
          have hjw : IntKind.i64.wrap (id - 1) = j := (i64_w _).trans ((w64 (by omega) (by have := HLL.out; omega)).trans hj)
          have r0 : (0 ≤ j ∧ j < (L.length : Int)) = True := eq_true ⟨by omega, by omega⟩
          obtain ⟨A', c', hA', -, hCO⟩ := HA.out.pool.objs
          have cg2 : wr.cell? ⟨g, 0, none⟩ = some (.slice A L.length c) := (blk_cell HA.out.pool.top 0).trans rfl
          have hO := at_O hCO j (by omega) (by omega)
          rw [raw_get L bs HA.out.pool.len j.toNat hjt] at hO
          have hsl := HA.out.pool.slots j.toNat hjt
          have hox := HA.out.pool.ob _ (by rw [List.getD_eq_getElem?_getD, List.getElem?_eq_getElem hjt]; exact List.getElem_mem hjt : L.getD j.toNat z73 ∈ L)
          have hjx : (L.getD (s.2.getD i 0 - 1).toNat z73) = L.getD j.toNat z73 := by
            rw [← HRd.out, hj]
          obtain ⟨ad, eA, o0, o1, o2⟩ := hO
          injection hA' with hA1 hA2 hA3
          subst hA1
          subst eA
          have HSl := Aside0.mk hsl
          have HOx := Aside0.mk hox
          have HJx := Aside0.mk hjx
          have HI := Aside0.mk hi
          generalize bs.getD j.toNat 0 = b at o2 HSl
          generalize L.getD j.toNat z73 = x at o0 o1 o2 HSl HOx HJx
          clear hi hmem hrd hid hj hjt hsl hox hjx hCO hA3
          go_upto_region 12 with (fail)
          refine start_ (n := 13) (S := fun w' => w'.cell? ⟨g, 0, none⟩ = some (.slice (some ad) L.length c) ∧ w'.cell? ⟨w.heap.size, 0, none⟩ = some (.slice (some ad1) s.2.length c1) ∧ w'.cell? (ad1.add i) = some (.int .i64 id) ∧ w'.cell? (ad.add (j.toNat * 3)) = some (.int .i64 x.f0.f0) ∧ w'.cell? ⟨(ad.add (j.toNat * 3)).block, (ad.add (j.toNat * 3)).off + 1, none⟩ = some (.int .i64 x.f0.f1) ∧ w'.cell? ⟨(ad.add (j.toNat * 3)).block, (ad.add (j.toNat * 3)).off + 2, none⟩ = some (.slice (some ⟨b, 0, none⟩) x.f1.length x.f1.length)) (ds := [12]) #[false, false, false, false, false, false, false, false, false, false, false, false, false] (by kernel_rfl) rfl rfl ⟨cg2, cob, hx1, o0, o1, o2⟩ (fun hHeld => ?_)
          refine pure_ (i := 0) (N := some 38) (v := ?_) (a' := ?_) #[true, false, false, false, false, false, false, false, false, false, false, false, false] rfl rfl (by kernel_rfl) (fun _ _ _ h => h) (Or.inl ⟨by rfl, ?_⟩) ?_ ?_
          rotate_left
          · intro w'
            go_simp
            with_reducible rfl
          rotate_left
          · simp only [Act.put, List.setIfInBounds_toArray, List.set_cons_zero, List.set_cons_succ, i64_w, i32_w]
            rfl
          refine pure_ (i := 1) (N := some 39) (v := ?_) (a' := ?_) #[true, true, false, false, false, false, false, false, false, false, false, false, false] rfl rfl (by kernel_rfl) (fun _ _ _ h => h) (Or.inl ⟨by rfl, ?_⟩) ?_ ?_
          rotate_left
          · intro w'
            go_simp
            with_reducible rfl
          rotate_left
          · simp only [Act.put, List.setIfInBounds_toArray, List.set_cons_zero, List.set_cons_succ, i64_w, i32_w]
            rfl
          refine pure_ (i := 2) (N := some 40) (v := ?_) (a' := ?_) #[true, true, true, false, false, false, false, false, false, false, false, false, false] rfl rfl (by kernel_rfl) (fun _ _ _ h => h) (Or.inl ⟨by rfl, ?_⟩) ?_ ?_
          rotate_left
          · intro w'
            go_simp
            with_reducible rfl
          rotate_left
          · simp only [Act.put, List.setIfInBounds_toArray, List.set_cons_zero, List.set_cons_succ, i64_w, i32_w]
            rfl
          refine pure_ (i := 5) (N := some 43) (v := ?_) (a' := ?_) #[true, true, true, false, false, true, false, false, false, false, false, false, false] rfl rfl (by kernel_rfl) (fun _ _ _ h => h) (Or.inl ⟨by rfl, ?_⟩) ?_ ?_
          rotate_left
          · intro w'
            go_simp
            with_reducible rfl
          rotate_left
          · simp only [Act.put, List.setIfInBounds_toArray, List.set_cons_zero, List.set_cons_succ, i64_w, i32_w]
            rfl
          refine take_ (i := 3) (N := some 41) (v := ?_) (a' := ?_) #[true, true, true, true, false, true, false, false, false, false, false, false, false] rfl rfl (by kernel_rfl) (fun _ _ _ h => h) (Or.inl ⟨by rfl, ?_⟩) hHeld ?_ ?_
          rotate_left
          · rintro w' ⟨s0, s1, s2, s3, s4, s5⟩
            go_simp
            with_reducible rfl
          rotate_left
          · simp only [Act.put, List.setIfInBounds_toArray, List.set_cons_zero, List.set_cons_succ, i64_w, i32_w]
            rfl
          refine take_ (i := 4) (N := some 42) (v := ?_) (a' := ?_) #[true, true, true, true, true, true, false, false, false, false, false, false, false] rfl rfl (by kernel_rfl) (fun _ _ _ h => h) (Or.inl ⟨by rfl, ?_⟩) hHeld ?_ ?_
          rotate_left
          · rintro w' ⟨s0, s1, s2, s3, s4, s5⟩
            go_simp
            with_reducible rfl
          rotate_left
          · simp only [Act.put, List.setIfInBounds_toArray, List.set_cons_zero, List.set_cons_succ, i64_w, i32_w]
            rfl
          refine pure_ (i := 6) (N := some 44) (v := ?_) (a' := ?_) #[true, true, true, true, true, true, true, false, false, false, false, false, false] rfl rfl (by kernel_rfl) (fun _ _ _ h => h) (Or.inl ⟨by rfl, ?_⟩) ?_ ?_
          rotate_left
          · intro w'
            go_simp
            with_reducible rfl
          rotate_left
          · simp only [Act.put, List.setIfInBounds_toArray, List.set_cons_zero, List.set_cons_succ, i64_w, i32_w]
            rfl
          refine take_ (i := 7) (N := some 45) (v := ?_) (a' := ?_) #[true, true, true, true, true, true, true, true, false, false, false, false, false] rfl rfl (by kernel_rfl) (fun _ _ _ h => h) (Or.inl ⟨by rfl, ?_⟩) hHeld ?_ ?_
          rotate_left
          · rintro w' ⟨s0, s1, s2, s3, s4, s5⟩
            go_simp
            with_reducible rfl
          rotate_left
          · simp only [Act.put, List.setIfInBounds_toArray, List.set_cons_zero, List.set_cons_succ, i64_w, i32_w]
            rfl
          refine pure_ (i := 8) (N := some 46) (v := ?_) (a' := ?_) #[true, true, true, true, true, true, true, true, true, false, false, false, false] rfl rfl (by kernel_rfl) (fun _ _ _ h => h) (Or.inl ⟨by rfl, ?_⟩) ?_ ?_
          rotate_left
          · intro w'
            go_simp
            with_reducible rfl
          rotate_left
          · simp only [Act.put, List.setIfInBounds_toArray, List.set_cons_zero, List.set_cons_succ, i64_w, i32_w]
            rfl
          refine pure_ (i := 9) (N := some 47) (v := ?_) (a' := ?_) #[true, true, true, true, true, true, true, true, true, true, false, false, false] rfl rfl (by kernel_rfl) (fun _ _ _ h => h) (Or.inl ⟨by rfl, ?_⟩) ?_ ?_
          rotate_left
          · intro w'
            go_simp
            with_reducible rfl
          rotate_left
          · simp only [Act.put, List.setIfInBounds_toArray, List.set_cons_zero, List.set_cons_succ, i64_w, i32_w]
            rfl
          refine take_ (i := 10) (N := some 48) (v := ?_) (a' := ?_) #[true, true, true, true, true, true, true, true, true, true, true, false, false] rfl rfl (by kernel_rfl) (fun _ _ _ h => h) (Or.inl ⟨by rfl, ?_⟩) hHeld ?_ ?_
          rotate_left
          · rintro w' ⟨s0, s1, s2, s3, s4, s5⟩
            go_simp
            with_reducible rfl
          rotate_left
          · simp only [Act.put, List.setIfInBounds_toArray, List.set_cons_zero, List.set_cons_succ, i64_w, i32_w]
            rfl
          refine one_ (i := 11) (N := some 11) #[true, true, true, true, true, true, true, true, true, true, true, true, false] rfl rfl (by kernel_rfl) (by decide) (fun K hK => ?_)
          refine value_ (w1 := ?_) (v := ?_) (by rfl) rfl ?_ ?_
          rotate_left 2
          · go_simp
            constructor
            · rfl
            · rfl
          refine hK.out _ _ ⟨((World.cell?_alloc_some wr.drew _ (.cells #[.int .i64 0, .int .i64 0, .slice none 0 0] 73) (by rw [show wr.drew.cell? _ = _ from cg2]; rfl)).trans cg2), ((World.cell?_alloc_some wr.drew _ (.cells #[.int .i64 0, .int .i64 0, .slice none 0 0] 73) (by rw [show wr.drew.cell? _ = _ from cob]; rfl)).trans cob), ((World.cell?_alloc_some wr.drew _ (.cells #[.int .i64 0, .int .i64 0, .slice none 0 0] 73) (by rw [show wr.drew.cell? _ = _ from hx1]; rfl)).trans hx1), ((World.cell?_alloc_some wr.drew _ (.cells #[.int .i64 0, .int .i64 0, .slice none 0 0] 73) (by rw [show wr.drew.cell? _ = _ from o0]; rfl)).trans o0), ((World.cell?_alloc_some wr.drew _ (.cells #[.int .i64 0, .int .i64 0, .slice none 0 0] 73) (by rw [show wr.drew.cell? _ = _ from o1]; rfl)).trans o1), ((World.cell?_alloc_some wr.drew _ (.cells #[.int .i64 0, .int .i64 0, .slice none 0 0] 73) (by rw [show wr.drew.cell? _ = _ from o2]; rfl)).trans o2)⟩ (fun hHeld => ?_)
          clear hK K
          refine norm_ (a' := ?_) ?_ ?_
          rotate_left
          · show Act.put _ (some 11) _ = _
            simp only [Act.put, List.setIfInBounds_toArray, List.set_cons_zero, List.set_cons_succ, i64_w, i32_w]
            rfl
          refine last_ (i := 12) (N := none) #[true, true, true, true, true, true, true, true, true, true, true, true, true] rfl rfl (by kernel_rfl) (by decide) (fun K hK => ?_)
          refine skip_ (w1 := ?_) (by rfl) rfl ?_ ?_
          rotate_left
          · go_simp
            rfl
          refine hK.out _ _ ?_
          clear hK K
          refine done_ (by kernel_rfl) ?_
          have hb2 : Below wr.heap.size wr (wr.alloc (.cells #[.int .i64 x.f0.f0, .int .i64 x.f0.f1, .slice (some ⟨b, 0, none⟩) x.f1.length x.f1.length] 73)).drew := below_drew1 (below_alloc (Below.refl _ _) _)
          have bk2 : (wr.alloc (.cells #[.int .i64 x.f0.f0, .int .i64 x.f0.f1, .slice (some ⟨b, 0, none⟩) x.f1.length x.f1.length] 73)).drew.heap[wr.heap.size]? = some (.cells #[.int .i64 x.f0.f0, .int .i64 x.f0.f1, .slice (some ⟨b, 0, none⟩) x.f1.length x.f1.length] 73 (0, 0)) := blk_new wr _
          have HA2 := Aside0.mk (HA.out.below hb2)
          have BK2 := Aside0.mk bk2
          have SB2 := Aside0.mk (blk_below HSl.out.2.2 hb2)
          have hs := HA.out.sok.short
          obtain ⟨kk, hkk⟩ : ∃ kk, gk = kk + 1 := ⟨gk - 1, by have := HK.out; have := HI.out; omega⟩
          have hstep : (goS L kk (i + 1) (slotsS x.f0 x.f1 0 s)).2 = reachP L l := by
            rw [← HG.out, hkk]
            rw [goS_step L kk i s HI.out, HJx.out]
          have HStep := Aside0.mk hstep
          have HKK := Aside0.mk hkk
          clear hb2 bk2 hs hkk hstep
          generalize (wr.alloc (.cells #[.int .i64 x.f0.f0, .int .i64 x.f0.f1, .slice (some ⟨b, 0, none⟩) x.f1.length x.f1.length] 73)).drew = W2 at HA2 BK2 SB2 ⊢
          generalize wr.heap.size = bx at BK2 ⊢
          have cb2 : W2.cell? ⟨bx, 2, none⟩ = some (.slice (some ⟨b, 0, none⟩) x.f1.length x.f1.length) := (blk_cell BK2.out 2).trans rfl
          go_wp2
          go_loopg [52] x.f1.length (fun kq v52 w' => ∃ (jj : Nat) (s' : List Bool × List Int), v52 = .int .i64 jj ∧ Aside0 (jj ≤ x.f1.length) ∧ Aside0 (ReachAt w plo ok g (.slice (some ad) L.length c) bs L n s' w') ∧ Aside0 (w'.heap[bx]? = some (.cells #[.int .i64 x.f0.f0, .int .i64 x.f0.f1, .slice (some ⟨b, 0, none⟩) x.f1.length x.f1.length] 73 (0, 0))) ∧ Aside0 (w'.heap[b]? = some (.cells (cellsI x.f1) 2 (0, 0))) ∧ Aside0 (slotsS x.f0 (x.f1.drop jj) jj s' = slotsS x.f0 x.f1 0 s) ∧ Aside0 (kq = x.f1.length - jj))
          case atStart => exact ⟨0, s, rfl, ⟨by omega⟩, ⟨HA2.out⟩, ⟨BK2.out⟩, ⟨SB2.out⟩, ⟨rfl⟩, ⟨rfl⟩⟩
          case round =>
            clear HA2 BK2 SB2
            obtain ⟨jj, s', rfl, HJ, HA2, BK2, SB2, HS2, HK2⟩ := hrel
            by_cases hjj : jj < x.f1.length
            · have c2b : decide ((jj : Int) < (x.f1.length : Int)) = true := decide_eq_true (by omega)
              have c3b : decide (jj < x.f1.length) = true := decide_eq_true hjj
              have p2 : (0 ≤ (jj : Int)) = True := eq_true (by omega)
              have q2 : ((jj : Int) < (x.f1.length : Int)) = True := eq_true (by omega)
              have q3 : (jj < x.f1.length) = True := eq_true hjj
              have hlx := HOx.out.len
              have hlh := HOx.out.hi
              have hiw2 : IntKind.i64.wrap ((jj : Int) + 1) = ((jj + 1 : Nat) : Int) := by rw [i64_w, w64 (by omega) (by omega)]; omega
              have cs : wr.cell? ⟨b, jj, none⟩ = some (.int .i64 (x.f1.getD jj 0)) := (blk_cell SB2.out jj).trans (cellsI_get x.f1 jj hjj)
              have b0_ : wr.cell? ⟨bx, 0, none⟩ = some (.int .i64 x.f0.f0) := (blk_cell BK2.out 0).trans rfl
              have b1_ : wr.cell? ⟨bx, 1, none⟩ = some (.int .i64 x.f0.f1) := (blk_cell BK2.out 1).trans rfl
              have hst := slotsS_step x.f0 x.f1 jj s' hjj
              rw [HS2.out] at hst
              have HSt := Aside0.mk hst
              have HJ2 := Aside0.mk hjj
              clear hst hjj hlx hlh
              generalize x.f1.getD jj 0 = nn at cs HSt
              cases hpt : ptrB x.f0.f0 x.f0.f1 (jj : Int) with
              | true =>
                have hcall : ∀ W, Calls Try.prog 61 #[.agg #[.int .i64 x.f0.f0, .int .i64 x.f0.f1], .int .i64 (jj : Int)] W fun e w' => e = .returned (.bool true) ∧ Below W.heap.size W w' := fun W => hpt ▸ shape_Pointer.calls x.f0.f0 x.f0.f1 (jj : Int) HOx.out.hi W
                have hst2 := HSt.out
                rw [if_pos hpt] at hst2
                have HSu := Aside0.mk hst2
                clear hst2 HSt hpt
                go_wp2_with fail
                refine (hcall _).mono ?_
                rintro e w4 ⟨rfl, hb4⟩
                have HA4 := Aside0.mk (HA2.out.below hb4)
                have BK4 := Aside0.mk (blk_below BK2.out hb4)
                have SB4 := Aside0.mk (blk_below SB2.out hb4)
                have hs := HA4.out.sok.short
                have hsl := HA4.out.sok.len
                obtain ⟨v4, hv4⟩ := HA4.out.vis
                have hvis := visit.calls nn w4 hv4 HA4.out.bel.size (by have := HLL.out; omega) (by have := HLL.out; omega)
                have HVi := Aside0.mk hvis
                clear hb4 hs hsl hv4 hvis
                go_wp2_with (go_at_call 60; refine HVi.out.mono ?_; rintro e w5 ⟨rfl, hv5, hb5, hk5⟩; have HA5 := Aside0.mk (HA4.out.next hv5 hb5 hk5); have BK5 := Aside0.mk ((hk5 _ _ _ BK4.out (by decide) (by decide) (by decide)).trans BK4.out); have SB5 := Aside0.mk ((hk5 _ _ _ SB4.out (by decide) (by decide) (by decide)).trans SB4.out); clear hv5 hb5 hk5)
                go_roundg (x.f1.length - (jj + 1))
                case measure => have := HK2.out; have := HJ2.out; omega
                case rel => exact ⟨jj + 1, visit s' nn, by simp, ⟨by have := HJ2.out; omega⟩, ⟨HA5.out⟩, ⟨BK5.out⟩, ⟨SB5.out⟩, ⟨HSu.out.symm⟩, ⟨rfl⟩⟩
              | false =>
                have hcall : ∀ W, Calls Try.prog 61 #[.agg #[.int .i64 x.f0.f0, .int .i64 x.f0.f1], .int .i64 (jj : Int)] W fun e w' => e = .returned (.bool false) ∧ Below W.heap.size W w' := fun W => hpt ▸ shape_Pointer.calls x.f0.f0 x.f0.f1 (jj : Int) HOx.out.hi W
                have hst2 := HSt.out
                rw [if_neg (by rw [hpt]; decide)] at hst2
                have HSu := Aside0.mk hst2
                clear hst2 HSt hpt
                go_wp2_with fail
                refine (hcall _).mono ?_
                rintro e w4 ⟨rfl, hb4⟩
                have HA4 := Aside0.mk (HA2.out.below hb4)
                have BK4 := Aside0.mk (blk_below BK2.out hb4)
                have SB4 := Aside0.mk (blk_below SB2.out hb4)
                clear hb4
                go_wp2_with fail
                go_roundg (x.f1.length - (jj + 1))
                case measure => have := HK2.out; have := HJ2.out; omega
                case rel => exact ⟨jj + 1, s', by simp, ⟨by have := HJ2.out; omega⟩, ⟨HA4.out⟩, ⟨BK4.out⟩, ⟨SB4.out⟩, ⟨HSu.out.symm⟩, ⟨rfl⟩⟩
            · have c2b : decide ((jj : Int) < (x.f1.length : Int)) = false := decide_eq_false (by omega)
              have c3b : decide (jj < x.f1.length) = false := decide_eq_false hjj
              have hs2 := HS2.out
              rw [List.drop_eq_nil_of_le (by omega)] at hs2
              replace hs2 : s' = slotsS x.f0 x.f1 0 s := hs2
              have HS3 := Aside0.mk hs2
              have hiw2 : IntKind.i64.wrap ((i : Int) + 1) = ((i + 1 : Nat) : Int) := by have := HK.out; have := HLL.out; rw [i64_w, w64 (by omega) (by omega)]; omega
              clear hs2 hjj
              go_wp2_with fail
              go_roundg kk
              case measure => have := HKK.out; omega
              case rel => exact ⟨i + 1, s', by simp, ⟨HA2.out⟩, ⟨by rw [HS3.out]; exact HStep.out⟩, ⟨by have := HK.out; have := HKK.out; omega⟩⟩
        · have c0b : decide ((i : Int) < (s.2.length : Int)) = false := decide_eq_false (by omega)
          have c1b : decide (i < s.2.length) = false := decide_eq_false hi
          have he : s.2 = reachP L l := by rw [← HG.out, goS_end L gk i s (by omega)]
          have HE := Aside0.mk he
          clear hi he
          go_wp2_with (go_at_call 62; refine (clip_calls A1 s.2.length c1 HL1.out HC1.out.2.1 _).mono ?_; rintro e w4 ⟨rfl, rfl⟩)
          go_ret
          rw [← HE.out]
          exact ⟨⟨_, rfl, HC1.out⟩, HA.out.bel⟩
end
end Go.Proofs.Ytcpomchijogblaa.PPo
