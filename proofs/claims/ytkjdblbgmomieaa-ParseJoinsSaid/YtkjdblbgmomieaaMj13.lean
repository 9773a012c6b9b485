import Derived.Test.YtkjdblbgmomieaaMj12
import Derived.Shelf.Strings.OnBuilder
import Derived.Shelf.Strings.BuilderK
import Derived.Test.YtkjdblbgmomieaaProg
import Derived.Test.YtkjdblbgmomieaaMj1
-- from YtkjdblbgmomieaaHPFunc
section
namespace Go.Proofs.Ytkjdblbgmomieaa.PSh
open Go.RowKit Go.Proofs.YtkjdblbgmomieaaW.PrintWords Go.Proofs.YtkjdblbgmomieaaW.PrintLast Go.Proofs.YtkjdblbgmomieaaW.PrintMore Go.Proofs.Ytkjdblbgmomieaa.Str Go.Proofs.Ytkjdblbgmomieaa.Dig Go.Proofs.Ytkjdblbgmomieaa.DigLaw
set_option linter.unusedVariables false
set_option linter.unusedSimpArgs false
def fOb (x : SF) (v1 v3 : Value) : Array Value := #[.string x.f0, v1, .int .i64 x.f2, v3, .int .i64 x.f4]
structure FPAt (g bz bx : Nat) (z : Array Value) (tl ts : List Tk) (x : SF) (v1 v3 : Value) (en n : Int) (w0 w w' : World) : Prop where
  p : PAt g tl ts en n w0 w'
  k : KeepBut w w' g none
  wb : w0.heap.size ≤ w.heap.size
  gl : g < w.heap.size
  ge : w.heap.size ≤ bz
  lt : bz < bx
  zero : w'.heap[bz]? = some (.cells z 34 (0, 0))
  box : w'.heap[bx]? = some (.cells (fOb x v1 v3) 34 (0, 0))
  r1 : Kd.R (Kd.int .i64) 3 w' w.heap.size (fun _ => True) v1 x.f1
  r3 : Kd.R (Kd.slice 39 k39) 36 w' w.heap.size (fun _ => True) v3 x.f3
section
variable {g bz bx : Nat} {z : Array Value} {tl ts us : List Tk} {x : SF} {v1 v3 : Value} {en n m : Int} {w0 w w1 w2 : World}
theorem FPAt.call (h : FPAt g bz bx z tl ts x v1 v3 en n w0 w w1) (hp : PAt g tl us en m w0 w2) (hk : KeepBut w1 w2 g none) : FPAt g bz bx z tl us x v1 v3 en m w0 w w2 := by
  obtain ⟨cells, hG⟩ := h.p.blk
  have h1 := h.gl
  have h2 := h.ge
  have h3 := h.lt
  exact ⟨hp, h.k.trans hk (.inl rfl), h.wb, h.gl, h.ge, h.lt, hk.blk h.zero (by omega) (by simp), hk.blk h.box (by omega) (by simp), row_keep h.r1 hG (by decide) hk, row_keep h.r3 hG (by decide) hk⟩
theorem FPAt.below (h : FPAt g bz bx z tl ts x v1 v3 en n w0 w w1) (hb : Below w1.heap.size w1 w2) : FPAt g bz bx z tl ts x v1 v3 en n w0 w w2 := h.call (h.p.below hb) (KeepBut.of_below hb g none)
theorem FPAt.put (h : FPAt g bz bx z tl ts x v1 v3 en n w0 w w1) (x2 : SF) (j : Nat) (u : Value) (hc : (fOb x v1 v3).setIfInBounds j u = fOb x2 v1 v3) (h4 : x2.f1 = x.f1) (h5 : x2.f3 = x.f3) : FPAt g bz bx z tl ts x2 v1 v3 en n w0 w (w1.setCell ⟨bx, j, none⟩ u) := by
  have h1 := h.gl
  have h2 := h.ge
  have h3 := h.lt
  have h6 := h.wb
  exact ⟨h.p.far (by omega) (by omega) j u, keep_far h.k (by show _ ≤ bx; omega) u, h.wb, h.gl, h.ge, h.lt, (Below.heap_setCell w1 ⟨bx, j, none⟩ u _ (by show bz ≠ bx; omega)).trans h.zero, blk_put h.box j u hc, by rw [h4]; exact Kd.R_set h.r1 h.box (by decide) j u, by rw [h5]; exact Kd.R_set h.r3 h.box (by decide) j u⟩
theorem FPAt.setz (h : FPAt g bz bx z tl ts x v1 v3 en n w0 w w1) (j : Nat) (u : Value) : FPAt g bz bx (z.setIfInBounds j u) tl ts x v1 v3 en n w0 w (w1.setCell ⟨bz, j, none⟩ u) := by
  have h1 := h.gl
  have h2 := h.ge
  have h3 := h.lt
  have h6 := h.wb
  exact ⟨h.p.far (by omega) (by omega) j u, keep_far h.k (by show _ ≤ bz; omega) u, h.wb, h.gl, h.ge, h.lt, blk_put h.zero j u rfl, (Below.heap_setCell w1 ⟨bz, j, none⟩ u _ (by show bx ≠ bz; omega)).trans h.box, Kd.R_set h.r1 h.zero (by decide) j u, Kd.R_set h.r3 h.zero (by decide) j u⟩
theorem FPAt.app {α : Type} {dk : Kd α} {e : Nat} {acc : List α} {v : Value} (h : FPAt g bz bx z tl ts x v1 v3 en n w0 w w1) (hv : dk.R e w1 w.heap.size (fun _ => True) v acc) (he : e ≠ 82 ∧ e ≠ 34) (hg : w1.grownBy w2 v.ownBlock) (x2 : SF) (j : Nat) {u1 u3 : Value} (u : Value) (hc : (fOb x v1 v3).setIfInBounds j u = fOb x2 u1 u3)
    (hr1 : Kd.R (Kd.int .i64) 3 w2 w.heap.size (fun _ => True) u1 x2.f1) (hr3 : Kd.R (Kd.slice 39 k39) 36 w2 w.heap.size (fun _ => True) u3 x2.f3) : FPAt g bz bx z tl ts x2 u1 u3 en n w0 w (w2.setCell ⟨bx, j, none⟩ u) := by
  have h1 := h.gl
  have h2 := h.ge
  have h3 := h.lt
  have h6 := h.wb
  obtain ⟨cells, hG⟩ := h.p.blk
  have hz := (hg.block bz (blk_lt h.zero) (Kd.R_ne hv h.zero he.2)).trans h.zero
  have hx := (hg.block bx (blk_lt h.box) (Kd.R_ne hv h.box he.2)).trans h.box
  have hkk : KeepBut w w2 g none := h.k.trans (KeepBut.of_grown hg g) ((Kd.R_base2 hv).imp (fun e => e) (fun e => e))
  exact ⟨(h.p.grown hg (Kd.R_ne hv hG he.1) (fun k e => Nat.le_trans h.wb (Kd.R_base hv k e))).far (by omega) (by omega) j u, keep_far hkk (by show _ ≤ bx; omega) _, h.wb, h.gl, h.ge, h.lt, (Below.heap_setCell w2 ⟨bx, j, none⟩ u _ (by show bz ≠ bx; omega)).trans hz, blk_put hx j u hc, Kd.R_set hr1 hx (by decide) j u, Kd.R_set hr3 hx (by decide) j u⟩
theorem FPAt.at1 (h : FPAt g bz bx z tl ts x v1 v3 en n w0 w w1) (j : Nat) : w1.cell? ⟨bx, j, none⟩ = (fOb x v1 v3)[j]? := blk_cell h.box j
end
theorem types_calls (s : ByteArray) (b : Bool) (w : World) : Calls Try.prog 80 #[.string s, .bool b] w fun e w' => e = .returned (.int .i64 (typeC s b)) ∧ Below w.heap.size w w' :=
  (parse_types.calls s b (typeC s b) w (by unfold parse_types.f typeC; split; rfl; split; rfl; split; cases b <;> rfl; rfl)).mono fun e w' h => ⟨h.1, h.2.below⟩
theorem type_ne {vs : List Tk} {b : Bool} (h : ¬ typeC (pk0 vs) b < 0) : vs ≠ [] := fun e => by
  rw [e] at h
  have e2 : (pk0 []).toList = [] := ByteArray.toList_empty
  unfold typeC at h
  rw [e2] at h
  cases b <;> exact h (by decide)
set_option maxHeartbeats 8000000 in
set_option maxRecDepth 100000 in
theorem func_calls (g : Nat) (tl ts : List Tk) (en n : Int) (hn : 0 ≤ n ∧ n ≤ 4096) (w0 w : World) (h : PAt g tl ts en n w0 w) :
    Calls Try.prog 59 #[.pointer (some ⟨g, 0, none⟩)] w (PEnd (funcP en n ts) g w0 w fun r e w' => (∃ v1 v3, e = .returned (.agg (fOb r.1 v1 v3)) ∧ Kd.R (Kd.int .i64) 3 w' w.heap.size (fun _ => True) v1 r.1.f1 ∧ Kd.R (Kd.slice 39 k39) 36 w' w.heap.size (fun _ => True) v3 r.1.f3) ∧ PAt g tl r.2.2 en r.2.1 w0 w') := by
  have hu34 := Try.underlying34
  obtain ⟨r, hr⟩ : ∃ r, funcP en n ts = r := ⟨_, rfl⟩
  rw [hr]
  unfold funcP headP at hr
  have HR := Aside0.mk hr
  have HP := Aside0.mk h
  clear hr h
  go_enter Try.func59, Try.ntmps59
  have hz := blk_new w (.cells #[.string ⟨#[]⟩, .slice none 0 0, .int .i64 0, .slice none 0 0, .int .i64 0] 34)
  have hb0 := below_alloc (Below.refl w.heap.size w) (.cells #[.string ⟨#[]⟩, .slice none 0 0, .int .i64 0, .slice none 0 0, .int .i64 0] 34)
  have HP1 := Aside0.mk (HP.out.below hb0)
  have HK1 := Aside0.mk (KeepBut.of_below hb0 g none)
  clear hb0
  go_upto_region 1 with (fail)
  generalize w.alloc (.cells #[.string ⟨#[]⟩, .slice none 0 0, .int .i64 0, .slice none 0 0, .int .i64 0] 34) = W0 at hz HP1 HK1 ⊢
  have HZ0 := Aside0.mk hz
  clear hz
  go_wp2_with fail
  refine (here_calls HP1.out).mono ?_
  rintro e w1 ⟨rfl, hp_, hk_⟩
  have hz := hk_.blk HZ0.out (by have := HP.out.lt; omega) (by simp)
  have hx := blk_new w1 (.cells (fOb (⟨noB, [], 0, [], hereP en ts⟩ : SF) (.slice none 0 0) (.slice none 0 0)) 34)
  have hb1 := below_alloc (Below.refl w1.heap.size w1) (.cells (fOb (⟨noB, [], 0, [], hereP en ts⟩ : SF) (.slice none 0 0) (.slice none 0 0)) 34)
  have HX := Aside0.mk (show FPAt g w.heap.size w1.heap.size #[.string ⟨#[]⟩, .slice none 0 0, .int .i64 0, .slice none 0 0, .int .i64 0] tl ts (⟨noB, [], 0, [], hereP en ts⟩ : SF) (.slice none 0 0) (.slice none 0 0) en n w0 w (w1.alloc (.cells (fOb (⟨noB, [], 0, [], hereP en ts⟩ : SF) (.slice none 0 0) (.slice none 0 0)) 34)) from
    ⟨hp_.below hb1, HK1.out.trans (hk_.trans (KeepBut.of_below hb1 g none) (.inl rfl)) (.inl rfl), HP.out.b.size, HP.out.lt, Nat.le_refl _, blk_lt hz, blk_below hz hb1, hx, Kd.R_nil _ _ _ _ _, Kd.R_nil _ _ _ _ _⟩)
  clear hp_ hk_ hz hx hb1 HP1 HK1 HZ0
  simp only [fOb, noB] at HX
  go_upto_region 2 with (fail)
  generalize w1.alloc (.cells _ 34) = W1 at HX ⊢
  generalize w1.heap.size = bx_ at HX ⊢
  obtain ⟨at0, hat⟩ : ∃ a, hereP en ts = a := ⟨_, rfl⟩
  have hr := HR.out
  rw [hat] at HX hr
  have HR := Aside0.mk hr
  have HAT := Aside0.mk hat
  clear hr hat
  go_wp2_with fail
  refine ((show Calls _ _ _ _ (PEnd (wantP en [102, 117, 110, 99] ts) g w0 _ _) from by have := want_calls (⟨#[102, 117, 110, 99]⟩ : ByteArray) (by rw [show (⟨#[102, 117, 110, 99]⟩ : ByteArray).toList = [102, 117, 110, 99] from mk_toList [102, 117, 110, 99]]; simp) HX.out.p; rwa [show (⟨#[102, 117, 110, 99]⟩ : ByteArray).toList = [102, 117, 110, 99] from mk_toList [102, 117, 110, 99]] at this)).mono ?_
  rintro e w1 ⟨⟨hb_, hk_⟩, h_⟩
  have hr := HR.out
  clear HR
  rcases hv : wantP en [102, 117, 110, 99] ts with q | t1
  · rw [hv] at h_ hr
    obtain rfl := h_
    (try simp only [bind_err] at hr)
    obtain rfl := hr
    have HZ := Aside0.mk (And.intro hb_ (HX.out.k.trans hk_ (.inl rfl)))
    clear hb_ hk_ hv
    go_wp2
    exact ⟨rfl, HZ.out, rfl⟩
  have HV := Aside0.mk hv
  rw [hv] at h_ hr
  obtain ⟨rfl, hp_⟩ := h_
  (try simp only [bind_ok] at hr)
  have HX1 := Aside0.mk (HX.out.call hp_ hk_)
  have HR := Aside0.mk hr
  clear hb_ hk_ hp_ hr hv
  go_wp2_with fail
  refine (name_calls HX1.out.p).mono ?_
  rintro e w2 ⟨⟨hb_, hk_⟩, h_⟩
  have hr := HR.out
  clear HR
  rcases hv : nameP en t1 with q | ⟨m0, t2⟩
  · rw [hv] at h_ hr
    obtain rfl := h_
    (try simp only [bind_err] at hr)
    obtain rfl := hr
    have HZ := Aside0.mk (And.intro hb_ (HX1.out.k.trans hk_ (.inl rfl)))
    clear hb_ hk_ hv
    go_wp2
    exact ⟨rfl, HZ.out, rfl⟩
  have HV := Aside0.mk hv
  rw [hv] at h_ hr
  obtain ⟨rfl, hp_⟩ := h_
  (try simp only [bind_ok] at hr)
  have HX2 := Aside0.mk (HX1.out.call hp_ hk_)
  have HR := Aside0.mk hr
  clear hb_ hk_ hp_ hr hv
  have cc := HX2.out.at1 0
  have ff := blk_frozen HX2.out.box 0
  simp only [fOb] at cc
  have HX3 := Aside0.mk (HX2.out.put (⟨m0, [], 0, [], at0⟩ : SF) 0 (.string m0) rfl rfl rfl)
  go_upto_region 4 with (fail)
  generalize w2.setCell ⟨bx_, 0, none⟩ (.string m0) = W3 at HX3 ⊢
  clear cc ff HX HX1 HX2
  go_wp2_with fail
  refine ((show Calls _ _ _ _ (PEnd (wantP en [40] t2) g w0 _ _) from by have := want_calls (⟨#[40]⟩ : ByteArray) (by rw [show (⟨#[40]⟩ : ByteArray).toList = [40] from mk_toList [40]]; simp) HX3.out.p; rwa [show (⟨#[40]⟩ : ByteArray).toList = [40] from mk_toList [40]] at this)).mono ?_
  rintro e w4 ⟨⟨hb_, hk_⟩, h_⟩
  have hr := HR.out
  clear HR
  rcases hv : wantP en [40] t2 with q | t3
  · rw [hv] at h_ hr
    obtain rfl := h_
    (try simp only [bind_err] at hr)
    obtain rfl := hr
    have HZ := Aside0.mk (And.intro hb_ (HX3.out.k.trans hk_ (.inl rfl)))
    clear hb_ hk_ hv
    go_wp2
    exact ⟨rfl, HZ.out, rfl⟩
  have HV := Aside0.mk hv
  rw [hv] at h_ hr
  obtain ⟨rfl, hp_⟩ := h_
  (try simp only [bind_ok] at hr)
  have HX4 := Aside0.mk (HX3.out.call hp_ hk_)
  have HR := Aside0.mk hr
  clear hb_ hk_ hp_ hr hv
  obtain ⟨Rp, hR⟩ : ∃ Rp, paramsP en (t3.length + 1) [] t3 = Rp := ⟨_, rfl⟩
  have hr := HR.out
  rw [hR] at hr
  have HR := Aside0.mk hr
  have HF := Aside0.mk hR
  clear hr hR HX3
  go_wp2
  (try simp only [Act.put, List.setIfInBounds_toArray, List.set_cons_zero, List.set_cons_succ])
  go_loopg [] (t3.length + 1) (fun kq w' => ∃ (ps : List Int) (vs : List Tk) (v1 : Value), Aside0 (paramsP en kq ps vs = Rp) ∧ Aside0 (vs.length < kq ∧ ps.length ≤ 8) ∧ Aside0 (FPAt g w.heap.size bx_ #[.string ⟨#[]⟩, .slice none 0 0, .int .i64 0, .slice none 0 0, .int .i64 0] tl vs (⟨m0, ps, 0, [], at0⟩ : SF) v1 (.slice none 0 0) en n w0 w w'))
  case atStart => exact ⟨[], t3, _, HF, ⟨Nat.lt_succ_self _, by simp⟩, HX4⟩
  case round =>
    clear HX4 HF
    obtain ⟨ps, vs, v1, HF, HLN, HX⟩ := hrel
    obtain ⟨A1, cP, e1_⟩ := Kd.R_slice HX.out.r1
    subst e1_
    cases gk with
    | zero => exact absurd HLN.out.1 (by omega)
    | succ k1 =>
      have hl := HF.out
      simp only [paramsP] at hl
      have HL := Aside0.mk hl
      clear hl HF
      go_wp2_with fail
      refine (peek0_calls HX.out.p).mono ?_
      rintro e w5 ⟨rfl, hp_, hk_⟩
      have HX1 := Aside0.mk (HX.out.call hp_ hk_)
      clear hp_ hk_
      by_cases z : (pk0 vs).toList = ([41] : List UInt8)
      rotate_left
      · have hl := HL.out
        rw [if_neg z] at hl
        have z1 : ((pk0 vs).toList != ([41] : List UInt8)) = true := bne_iff_ne.mpr z
        have z2 : (!((pk0 vs).toList == ([41] : List UInt8))) = true := z1
        have HL := Aside0.mk hl
        clear z hl HX
        go_wp2_with fail
        refine (peek0_calls HX1.out.p).mono ?_
        rintro e w6 ⟨rfl, hp_, hk_⟩
        have HX2 := Aside0.mk (HX1.out.call hp_ hk_)
        clear hp_ hk_
        go_wp2_with fail
        refine (types_calls (pk0 vs) false _).mono ?_
        rintro e w7 ⟨rfl, hb_⟩
        have HX3 := Aside0.mk (HX2.out.below hb_)
        have hl := HL.out
        clear hb_ HX1 HX2 z1 z2
        by_cases t : typeC (pk0 vs) false < 0
        · rw [if_pos t] at hl
          subst hl
          have hr := HR.out
          simp only [failP, bind_err] at hr
          obtain rfl := hr
          have t1 : decide (typeC (pk0 vs) false < 0) = true := decide_eq_true t
          clear t
          go_wp2_with fail
          refine (fail_calls (c := 9) HX3.out.p).mono ?_
          rintro e w9 ⟨rfl, hb_, hk_⟩
          have HZ := Aside0.mk (And.intro hb_ (HX3.out.k.trans hk_ (.inl rfl)))
          clear hb_ hk_
          go_wp2
          exact ⟨rfl, HZ.out, rfl⟩
        rw [if_neg t] at hl
        have HNE := Aside0.mk (type_ne t)
        have t1 : decide (typeC (pk0 vs) false < 0) = false := decide_eq_false t
        have cc := HX3.out.at1 1
        simp only [fOb] at cc
        by_cases u : ps.length ≥ 8
        · rw [if_pos u] at hl
          subst hl
          have hr := HR.out
          simp only [failP, bind_err] at hr
          obtain rfl := hr
          have u1 : decide (8 ≤ (ps.length : Int)) = true := decide_eq_true (by omega)
          clear u t
          go_wp2_with fail
          refine (fail_calls (c := 6) HX3.out.p).mono ?_
          rintro e w9 ⟨rfl, hb_, hk_⟩
          have HZ := Aside0.mk (And.intro hb_ (HX3.out.k.trans hk_ (.inl rfl)))
          clear hb_ hk_
          go_wp2
          exact ⟨rfl, HZ.out, rfl⟩
        rw [if_neg u] at hl
        have HL := Aside0.mk hl
        have HU := Aside0.mk u
        have u1 : decide (8 ≤ (ps.length : Int)) = false := decide_eq_false (by omega)
        clear u t hl
        go_upto_region 12 with (first | ((with_reducible refine gate_builtin (b := .append) (xs := #[.tmp 34, .tmp 36]) rfl ?_); at_builtin; refine Kd.R_append (Kd.int .i64) w.heap.size rfl (.tmp 34) (.tmp 36) 31 3 (.int .i64 0) 8 rfl Try.underlying31 (by kernel_rfl) rfl (by decide) (by omega) (.slice A1 ps.length cP) ps (typeC (pk0 vs) false) [.int .i64 (typeC (pk0 vs) false)] (fun _ => True) (fun k => True ∧ some k ≠ (Value.slice A1 ps.length cP).ownBlock) rfl rfl rfl (fun k hk => ⟨trivial, hk.2⟩) (fun k hk => trivial) HX3.out.r1 (Below.refl _ _) (keep_size HX3.out.k) (by have := HLN.out; omega) ?_; intro v1 w4_ hr4 hb4 hg4 hv4; obtain ⟨A6, c6, e6⟩ := Kd.R_slice hr4; rw [List.length_append, List.length_singleton] at e6; subst e6; have HX9 := Aside0.mk (HX3.out.app HX3.out.r1 (by decide) hg4 (⟨m0, ps ++ [typeC (pk0 vs) false], 0, [], at0⟩ : SF) 1 _ rfl hr4 (Kd.R_nil _ _ _ _ _)); have B4 := (hg4.block bx_ (blk_lt HX3.out.box) (Kd.R_ne HX3.out.r1 HX3.out.box (by decide))).trans HX3.out.box; have c4_ := blk_cell B4 1; have f4_ := blk_frozen B4 1; clear hr4 hb4 hg4 hv4 B4))
        clear c4_ f4_ cc HX3 t1 u1
        generalize w4_.setCell ⟨bx_, 1, none⟩ (.slice A6 (ps.length + 1) c6) = W8 at HX9 ⊢
        obtain ⟨a_, hc1, hf1, hst_⟩ := HX9.out.p.where_
        have HXa := Aside0.mk (HX9.out.call (hst_ HNE.out) ((KeepBut.refl _ g none).set_ 1 _))
        clear hst_
        go_wp2_with fail
        go_roundg k1
        case measure => omega
        case rel => exact ⟨_, vs.tail, _, HL, ⟨by have := take_len HNE.out; have := HLN.out; omega, by have := HU.out; simp; omega⟩, HXa⟩
      have hl := HL.out
      rw [if_pos z] at hl
      have hr := HR.out
      rw [← hl] at hr
      simp only [bind_ok] at hr
      have z1 : ((pk0 vs).toList != ([41] : List UInt8)) = false := bne_eq_false_iff_eq.mpr z
      have z2 : (!((pk0 vs).toList == ([41] : List UInt8))) = false := z1
      have HR := Aside0.mk hr
      clear z hl hr HL
      go_wp2_with fail
      refine ((show Calls _ _ _ _ (PEnd (wantP en [41] vs) g w0 _ _) from by have := want_calls (⟨#[41]⟩ : ByteArray) (by rw [show (⟨#[41]⟩ : ByteArray).toList = [41] from mk_toList [41]]; simp) HX1.out.p; rwa [show (⟨#[41]⟩ : ByteArray).toList = [41] from mk_toList [41]] at this)).mono ?_
      rintro e w6 ⟨⟨hb_, hk_⟩, h_⟩
      have hr := HR.out
      clear HR
      rcases hv : wantP en [41] vs with q | us
      · rw [hv] at h_ hr
        obtain rfl := h_
        (try simp only [bind_err] at hr)
        obtain rfl := hr
        have HZ := Aside0.mk (And.intro hb_ (HX1.out.k.trans hk_ (.inl rfl)))
        clear hb_ hk_ hv
        go_wp2
        exact ⟨rfl, HZ.out, rfl⟩
      have HV := Aside0.mk hv
      rw [hv] at h_ hr
      obtain ⟨rfl, hp_⟩ := h_
      (try simp only [bind_ok] at hr)
      have HX2 := Aside0.mk (HX1.out.call hp_ hk_)
      have HR := Aside0.mk hr
      clear hb_ hk_ hp_ hr hv
      go_wp2_with fail
      refine (peek0_calls HX2.out.p).mono ?_
      rintro e w7 ⟨rfl, hp_, hk_⟩
      have HX3 := Aside0.mk (HX2.out.call hp_ hk_)
      clear hp_ hk_
      go_wp2_with fail
      refine (types_calls (pk0 us) true _).mono ?_
      rintro e w8 ⟨rfl, hb_⟩
      have HX4 := Aside0.mk (HX3.out.below hb_)
      have cc := HX4.out.at1 2
      have ff := blk_frozen HX4.out.box 2
      simp only [fOb] at cc
      have HX5 := Aside0.mk (HX4.out.put (⟨m0, ps, typeC (pk0 us) true, [], at0⟩ : SF) 2 (.int .i64 (typeC (pk0 us) true)) rfl rfl rfl)
      go_upto_region 15 with (fail)
      generalize w8.setCell ⟨bx_, 2, none⟩ (.int .i64 (typeC (pk0 us) true)) = W7 at HX5 ⊢
      clear cc ff hb_ HX HX1 HX2 HX3 HX4 z1 z2
      have cc := HX5.out.at1 2
      simp only [fOb] at cc
      have hr := HR.out
      by_cases t : typeC (pk0 us) true < 0
      · rw [if_pos t] at hr
        simp only [failP, bind_err] at hr
        obtain rfl := hr
        have t1 : decide (typeC (pk0 us) true < 0) = true := decide_eq_true t
        clear t
        go_wp2_with fail
        refine (fail_calls (c := 9) HX5.out.p).mono ?_
        rintro e w9 ⟨rfl, hb_, hk_⟩
        have HZ := Aside0.mk (And.intro hb_ (HX5.out.k.trans hk_ (.inl rfl)))
        clear hb_ hk_
        go_wp2
        exact ⟨rfl, HZ.out, rfl⟩
      rw [if_neg t] at hr
      have HNE := Aside0.mk (type_ne t)
      have t1 : decide (typeC (pk0 us) true < 0) = false := decide_eq_false t
      have HR := Aside0.mk hr
      clear t hr
      go_upto_region 17 with (fail)
      clear cc t1
      obtain ⟨a_, hc1, hf1, hst_⟩ := HX5.out.p.where_
      have HX6 := Aside0.mk (HX5.out.call (hst_ HNE.out) ((KeepBut.refl _ g none).set_ 1 _))
      clear hst_
      go_wp2_with fail
      refine ((show Calls _ _ _ _ (PEnd (wantP en [123] us.tail) g w0 _ _) from by have := want_calls (⟨#[123]⟩ : ByteArray) (by rw [show (⟨#[123]⟩ : ByteArray).toList = [123] from mk_toList [123]]; simp) HX6.out.p; rwa [show (⟨#[123]⟩ : ByteArray).toList = [123] from mk_toList [123]] at this)).mono ?_
      rintro e w9 ⟨⟨hb_, hk_⟩, h_⟩
      have hr := HR.out
      clear HR
      rcases hv : wantP en [123] us.tail with q | u1
      · rw [hv] at h_ hr
        obtain rfl := h_
        (try simp only [bind_err] at hr)
        obtain rfl := hr
        have HZ := Aside0.mk (And.intro hb_ (HX6.out.k.trans hk_ (.inl rfl)))
        clear hb_ hk_ hv
        go_wp2
        exact ⟨rfl, HZ.out, rfl⟩
      have HV := Aside0.mk hv
      rw [hv] at h_ hr
      obtain ⟨rfl, hp_⟩ := h_
      (try simp only [bind_ok] at hr)
      have HX7 := Aside0.mk (HX6.out.call hp_ hk_)
      have HR := Aside0.mk hr
      clear hb_ hk_ hp_ hr hv
      obtain ⟨Rb, hR⟩ : ∃ Rb, blocksP en (u1.length + 1) [] n u1 = Rb := ⟨_, rfl⟩
      have hr := HR.out
      rw [hR] at hr
      have HR := Aside0.mk hr
      have HF := Aside0.mk hR
      generalize typeC (pk0 us) true = ty at HX7 HR
      clear hr hR HX5 HX6 hc1 hf1
      go_wp2
      (try simp only [Act.put, List.setIfInBounds_toArray, List.set_cons_zero, List.set_cons_succ])
      go_loopg [] (u1.length + 1) (fun kq w' => ∃ (bl : List (List SI)) (vs : List Tk) (m : Int) (v3 : Value), Aside0 (blocksP en kq bl m vs = Rb) ∧ Aside0 (vs.length < kq ∧ bl.length + vs.length ≤ 65536 ∧ 0 ≤ m ∧ m ≤ 4096) ∧ Aside0 (FPAt g w.heap.size bx_ #[.string ⟨#[]⟩, .slice none 0 0, .int .i64 0, .slice none 0 0, .int .i64 0] tl vs (⟨m0, ps, ty, bl, at0⟩ : SF) (.slice A1 ps.length cP) v3 en m w0 w w'))
      case atStart => exact ⟨[], u1, n, _, HF, ⟨Nat.lt_succ_self _, by have := HX7.out.p.len; simpa using this, hn⟩, HX7⟩
      case round =>
        clear HX7 HF
        obtain ⟨bl, vs, m, v3, HF, HLN, HX⟩ := hrel
        obtain ⟨A3, cB, e3_⟩ := Kd.R_slice HX.out.r3
        subst e3_
        cases gk with
        | zero => exact absurd HLN.out.1 (by omega)
        | succ k1 =>
          have hl := HF.out
          simp only [blocksP] at hl
          have HL := Aside0.mk hl
          clear hl HF
          go_wp2_with fail
          refine (peek0_calls HX.out.p).mono ?_
          rintro e w5 ⟨rfl, hp_, hk_⟩
          have HX1 := Aside0.mk (HX.out.call hp_ hk_)
          clear hp_ hk_
          by_cases z : (pk0 vs).toList = ([125] : List UInt8)
          · have hl := HL.out
            rw [if_pos z] at hl
            have hr := HR.out
            rw [← hl] at hr
            simp only [bind_ok] at hr
            have z1 : ((pk0 vs).toList != ([125] : List UInt8)) = false := bne_eq_false_iff_eq.mpr z
            have z2 : (!((pk0 vs).toList == ([125] : List UInt8))) = false := z1
            have HR := Aside0.mk hr
            clear z hl hr HL
            go_wp2_with fail
            refine ((show Calls _ _ _ _ (PEnd (wantP en [125] vs) g w0 _ _) from by have := want_calls (⟨#[125]⟩ : ByteArray) (by rw [show (⟨#[125]⟩ : ByteArray).toList = [125] from mk_toList [125]]; simp) HX1.out.p; rwa [show (⟨#[125]⟩ : ByteArray).toList = [125] from mk_toList [125]] at this)).mono ?_
            rintro e w9 ⟨⟨hb_, hk_⟩, h_⟩
            have hr := HR.out
            clear HR
            rcases hv : wantP en [125] vs with q | us9
            · rw [hv] at h_ hr
              obtain rfl := h_
              (try simp only [bind_err] at hr)
              obtain rfl := hr
              have HZ := Aside0.mk (And.intro hb_ (HX1.out.k.trans hk_ (.inl rfl)))
              clear hb_ hk_ hv
              go_wp2
              exact ⟨rfl, HZ.out, rfl⟩
            have HV := Aside0.mk hv
            rw [hv] at h_ hr
            obtain ⟨rfl, hp_⟩ := h_
            (try simp only [bind_ok] at hr)
            have HX9 := Aside0.mk (HX1.out.call hp_ hk_)
            have HR := Aside0.mk hr
            clear hb_ hk_ hp_ hr hv
            have hr := HR.out
            obtain rfl := hr
            clear HR
            have c_0 := HX9.out.at1 0
            have f_0 := blk_frozen HX9.out.box 0
            have d_0 := blk_cell HX9.out.zero 0
            have e_0 := blk_frozen HX9.out.zero 0
            have c_1 := HX9.out.at1 1
            have f_1 := blk_frozen HX9.out.box 1
            have d_1 := blk_cell HX9.out.zero 1
            have e_1 := blk_frozen HX9.out.zero 1
            have c_2 := HX9.out.at1 2
            have f_2 := blk_frozen HX9.out.box 2
            have d_2 := blk_cell HX9.out.zero 2
            have e_2 := blk_frozen HX9.out.zero 2
            have c_3 := HX9.out.at1 3
            have f_3 := blk_frozen HX9.out.box 3
            have d_3 := blk_cell HX9.out.zero 3
            have e_3 := blk_frozen HX9.out.zero 3
            have c_4 := HX9.out.at1 4
            have f_4 := blk_frozen HX9.out.box 4
            have d_4 := blk_cell HX9.out.zero 4
            have e_4 := blk_frozen HX9.out.zero 4
            have HF := Aside0.mk (((((HX9.out.setz 0 (.string m0)).setz 1 (.slice A1 ps.length cP)).setz 2 (.int .i64 ty)).setz 3 (.slice A3 bl.length cB)).setz 4 (.int .i64 at0))
            have hne : w.heap.size ≠ bx_ := by have := HX9.out.lt; omega
            have hne' : bx_ ≠ w.heap.size := by have := HX9.out.lt; omega
            simp only [fOb] at c_0 c_1 c_2 c_3 c_4
            clear HX HX1 HX9 z1 z2
            go_wp2
            (try simp only [Exit.inBlock, Exit.then])
            refine bodyPost_ret (results_cell_row rfl _ _ w.heap.size 34 #[.string m0, .slice A1 ps.length cP, .int .i64 ty, .slice A3 bl.length cB, .int .i64 at0] (0, 0) _ rfl HF.out.zero Try.underlying34 rfl (by kernel_rfl)) rfl ?_
            exact ⟨⟨HF.out.p.b, HF.out.k⟩, ⟨_, _, by rw [fOb], HF.out.r1, HF.out.r3⟩, HF.out.p⟩
          have hl := HL.out
          rw [if_neg z] at hl
          have z1 : ((pk0 vs).toList != ([125] : List UInt8)) = true := bne_iff_ne.mpr z
          have z2 : (!((pk0 vs).toList == ([125] : List UInt8))) = true := z1
          have HL := Aside0.mk hl
          clear z hl HX
          go_upto_region 20 with (fail)
          have HXd := Aside0.mk (HX1.out.below (below_drew1 (Below.refl _ _)))
          clear HX1 z1 z2
          refine start_ (n := 11) (S := fun w' => w'.cell? ⟨bx_, 3, none⟩ = some (.slice A3 bl.length cB)) (ds := [10]) #[false, false, false, false, false, false, false, false, false, false, false] (by kernel_rfl) rfl rfl ((HXd.out.at1 3)) (fun hHeld => ?_)
          refine pure_ (i := 0) (N := some 69) (v := ?_) (a' := ?_) #[true, false, false, false, false, false, false, false, false, false, false] rfl rfl (by kernel_rfl) (fun _ _ _ h => h) (Or.inl ⟨by rfl, ?_⟩) ?_ ?_
          rotate_left
          · intro w'
            go_simp
            with_reducible rfl
          rotate_left
          · simp only [Act.put, List.setIfInBounds_toArray, List.set_cons_zero, List.set_cons_succ, i64_w, i32_w]
            rfl
          refine pure_ (i := 2) (N := some 71) (v := ?_) (a' := ?_) #[true, false, true, false, false, false, false, false, false, false, false] rfl rfl (by kernel_rfl) (fun _ _ _ h => h) (Or.inl ⟨by rfl, ?_⟩) ?_ ?_
          rotate_left
          · intro w'
            go_simp
            with_reducible rfl
          rotate_left
          · simp only [Act.put, List.setIfInBounds_toArray, List.set_cons_zero, List.set_cons_succ, i64_w, i32_w]
            rfl
          refine pure_ (i := 3) (N := some 72) (v := ?_) (a' := ?_) #[true, false, true, true, false, false, false, false, false, false, false] rfl rfl (by kernel_rfl) (fun _ _ _ h => h) (Or.inl ⟨by rfl, ?_⟩) ?_ ?_
          rotate_left
          · intro w'
            go_simp
            with_reducible rfl
          rotate_left
          · simp only [Act.put, List.setIfInBounds_toArray, List.set_cons_zero, List.set_cons_succ, i64_w, i32_w]
            rfl
          refine take_ (i := 1) (N := some 70) (v := ?_) (a' := ?_) #[true, true, true, true, false, false, false, false, false, false, false] rfl rfl (by kernel_rfl) (fun _ _ _ h => h) (Or.inl ⟨by rfl, ?_⟩) hHeld ?_ ?_
          rotate_left
          · intro w' s0
            go_simp
            with_reducible rfl
          rotate_left
          · simp only [Act.put, List.setIfInBounds_toArray, List.set_cons_zero, List.set_cons_succ, i64_w, i32_w]
            rfl
          refine take_ (i := 4) (N := some 73) (v := ?_) (a' := ?_) #[true, true, true, true, true, false, false, false, false, false, false] rfl rfl (by kernel_rfl) (fun _ _ _ h => h) (Or.inl ⟨by rfl, ?_⟩) hHeld ?_ ?_
          rotate_left
          · intro w' s0
            go_simp
            with_reducible rfl
          rotate_left
          · simp only [Act.put, List.setIfInBounds_toArray, List.set_cons_zero, List.set_cons_succ, i64_w, i32_w]
            rfl
          refine pure_ (i := 5) (N := some 74) (v := ?_) (a' := ?_) #[true, true, true, true, true, true, false, false, false, false, false] rfl rfl (by kernel_rfl) (fun _ _ _ h => h) (Or.inl ⟨by rfl, ?_⟩) ?_ ?_
          rotate_left
          · intro w'
            go_simp
            with_reducible rfl
          rotate_left
          · simp only [Act.put, List.setIfInBounds_toArray, List.set_cons_zero, List.set_cons_succ, i64_w, i32_w]
            rfl
          refine one_ (i := 6) (N := some 75) #[true, true, true, true, true, true, true, false, false, false, false] rfl rfl (by kernel_rfl) (by decide) (fun K hK => ?_)
          refine goesP_ Try.func81 (by kernel_rfl) rfl #[.pointer (some ⟨g, 0, none⟩), .int .i64 (bl.length : Int)] (by rfl) rfl rfl (by simp only [List.map_toArray, List.map_cons, List.map_nil]; rfl) ?_
          with_reducible refine (block_calls g (bl.length : Int) (by omega) tl vs en m (by have := HLN.out; omega) w0 _ HXd.out.p).mono ?_
          rintro e w3_ ⟨⟨hb_, hk_⟩, h_⟩
          have hl := HL.out
          rcases hv : blockP en (bl.length : Int) m vs with q | ⟨b0, m2, vs2⟩
          · rw [hv] at h_ hl
            obtain rfl := h_
            simp only [bind_err] at hl
            subst hl
            have hr := HR.out
            simp only [bind_err] at hr
            obtain rfl := hr
            have HZ := Aside0.mk (And.intro hb_ (HXd.out.k.trans hk_ (.inl rfl)))
            clear hb_ hk_ hv
            refine Or.inr ⟨_, rfl, ?_⟩
            (try go_wp2)
            (try simp only [Exit.inBlock, Exit.then])
            exact ⟨rfl, HZ.out, rfl⟩
          have HV_ := Aside0.mk (show vs2.length < vs.length ∧ 0 ≤ m2 ∧ m2 ≤ 4096 from blockP_len hv (by have := HLN.out; omega) (by have := HLN.out; omega))
          rw [hv] at h_ hl
          obtain ⟨⟨v5, rfl, hrb⟩, hp_⟩ := h_
          obtain ⟨Ab, cb, rfl⟩ := Kd.R_slice hrb
          simp only [bind_ok] at hl
          have HL2 := Aside0.mk hl
          have HX2 := Aside0.mk (HXd.out.call hp_ hk_)
          have HRB := Aside0.mk (Kd.R_lower hrb (keep_size HXd.out.k))
          clear hb_ hk_ hp_ hl hv hrb
          refine Or.inl ⟨_, rfl, ?_⟩
          refine hK.out _ _ ((HX2.out.at1 3)) (fun hHeld => ?_)
          clear hK K
          refine norm_ (a' := ?_) ?_ ?_
          rotate_left
          · show Act.put _ (some 75) _ = _
            simp only [Act.put, List.setIfInBounds_toArray, List.set_cons_zero, List.set_cons_succ, i64_w, i32_w]
            rfl
          refine one_ (i := 7) (N := some 76) #[true, true, true, true, true, true, true, true, false, false, false] rfl rfl (by kernel_rfl) (by decide) (fun K hK => ?_)
          refine value_ (w1 := ?_) (v := ?_) (by rfl) rfl ?_ ?_
          rotate_left 2
          · go_simp
            constructor
            · rfl
            · rfl
          refine hK.out _ _ ((blk_cell (blk_alloc HX2.out.box (.cells #[.slice Ab b0.length cb] 36)) 3)) (fun hHeld => ?_)
          clear hK K
          refine norm_ (a' := ?_) ?_ ?_
          rotate_left
          · show Act.put _ (some 76) _ = _
            simp only [Act.put, List.setIfInBounds_toArray, List.set_cons_zero, List.set_cons_succ, i64_w, i32_w]
            rfl
          refine one_ (i := 8) (N := some 77) #[true, true, true, true, true, true, true, true, true, false, false] rfl rfl (by kernel_rfl) (by decide) (fun K hK => ?_)
          refine Kd.R_append_step (Kd.slice 39 k39) (w0 := w3_) w.heap.size (by rfl) (.tmp 70) (.tmp 76) 32 36 (.slice none 0 0) 24 rfl Try.underlying32 (by kernel_rfl) rfl (by decide) (by omega) (.slice A3 bl.length cB) bl b0 [.slice Ab b0.length cb] (fun _ => True) (fun k => True ∧ some k ≠ (Value.slice A3 bl.length cB).ownBlock) rfl (by first | rfl | (simp; rfl)) ⟨_, rfl, Kd.R_apart' HRB.out (Kd.R_typed HX2.out.r3) (by decide)⟩ (fun k hk => ⟨trivial, hk.2⟩) (fun k hk => trivial) HX2.out.r3 (Below.refl _ _) (keep_size HX2.out.k) (by have := HLN.out; omega) ?_
          intro v1 w4_ hr4 hb4 hg4 hv4
          obtain ⟨A6, c6, e6⟩ := Kd.R_slice hr4
          rw [List.length_append, List.length_singleton] at e6
          subst e6
          have B4 := Aside0.mk ((hg4.block bx_ (blk_lt HX2.out.box) (Kd.R_ne HX2.out.r3 HX2.out.box (by decide))).trans HX2.out.box)
          have HX4 := Aside0.mk (HX2.out.app HX2.out.r3 (by decide) hg4 (⟨m0, ps, ty, bl ++ [b0], at0⟩ : SF) 3 (.slice A6 (bl.length + 1) c6) rfl (Kd.R_over' HX2.out.r1 (Kd.R_typed HX2.out.r3) (by decide) hg4) hr4)
          clear hr4 hb4 hg4 hv4
          refine hK.out _ _ ((blk_cell B4.out 3)) (fun hHeld => ?_)
          clear hK K
          refine norm_ (a' := ?_) ?_ ?_
          rotate_left
          · show Act.put _ (some 77) _ = _
            simp only [Act.put, List.setIfInBounds_toArray, List.set_cons_zero, List.set_cons_succ, i64_w, i32_w]
            rfl
          refine pure_ (i := 9) (N := some 78) (v := ?_) (a' := ?_) #[true, true, true, true, true, true, true, true, true, true, false] rfl rfl (by kernel_rfl) (fun _ _ _ h => h) (Or.inl ⟨by rfl, ?_⟩) ?_ ?_
          rotate_left
          · intro w'
            go_simp
            with_reducible rfl
          rotate_left
          · simp only [Act.put, List.setIfInBounds_toArray, List.set_cons_zero, List.set_cons_succ, i64_w, i32_w]
            rfl
          refine last_ (i := 10) (N := none) #[true, true, true, true, true, true, true, true, true, true, true] rfl rfl (by kernel_rfl) (by decide) (fun K hK => ?_)
          have c5_ := blk_cell B4.out 3
          have f5_ := blk_frozen B4.out 3
          simp only [fOb] at c5_
          refine skip_ (w1 := ?_) (by rfl) rfl ?_ ?_
          rotate_left
          · go_simp
            rfl
          refine hK.out _ _ ?_
          clear hK K
          refine done_ (by kernel_rfl) ?_
          generalize w4_.setCell ⟨bx_, 3, none⟩ (.slice A6 (bl.length + 1) c6) = W8 at HX4 ⊢
          clear HX2 B4 HXd
          go_wp2_with fail
          go_roundg k1
          case measure => omega
          case rel => exact ⟨bl ++ [b0], vs2, m2, _, HL2, ⟨by have := HV_.out; have := HLN.out; omega, by have := HV_.out; have := HLN.out; simp; omega, HV_.out.2.1, HV_.out.2.2⟩, HX4⟩
end Go.Proofs.Ytkjdblbgmomieaa.PSh
end
-- from YtkjdblbgmomieaaHStrs
section
namespace Go.Proofs.Ytkjdblbgmomieaa.PSh
open Go.Shelf Go.RowKit Go.Proofs.YtkjdblbgmomieaaW.PrintWords Go.Proofs.Ytkjdblbgmomieaa.Str
set_option linter.unusedVariables false
theorem ad_spot {w : World} {ad : Addr} {u : Value} (h : w.cell? (ad.add 0) = some u) : ad = ⟨ad.block, ad.off, none⟩ ∧ ad.block < w.heap.size := by
  have h0 : ad.add 0 = ad := by unfold Addr.add; rfl
  rw [h0] at h
  have hb : ad.block < w.heap.size := World.block_lt_of_cell? w ad h
  refine ⟨?_, hb⟩
  obtain ⟨b, o, s⟩ := ad
  cases s with
  | none => rfl
  | some s =>
    exfalso
    unfold World.cell? at h
    split at h
    · simp at h
    · cases h
end Go.Proofs.Ytkjdblbgmomieaa.PSh
end
