/- What is written is read again, and what is read was written so: the plain law behind CodeBack. -/
import Derived.Test.YtpjehipemljkpaaSaidCodeBack
import Derived.Test.YtpjehipemljkpaaCodeWrite
namespace Go.Proofs.Ytpjehipemljkpaa.Pure
open Go.RowKit Go.Proofs.Ytpjehipemljkpaa.PCo Go.Proofs.Ytpjehipemljkpaa.CodeBackSaid Go.Proofs.YtpjehipemljkpaaW.PrintWords Go.Proofs.YtpjehipemljkpaaW.PrintLast Go.Proofs.Ytpjehipemljkpaa.Str Go.Proofs.Ytpjehipemljkpaa.CodeLaw

theorem back_works : Ev (fun k => turntablelaw33_works.f k) true :=
  Ev.of (fun k => turntablelaw33_works.mono k) (k := 30) (by decide +kernel)
theorem back_fit {f : S47} (h : good47 f) : Fit f :=
  ⟨by have := h.1.1; omega, by have := h.2.2.1; omega, fun x hx => by have := (h.2.2.2 x hx).2.2.2.2.2.1.1; omega⟩
theorem back_i64 {a : Int} (h : (Lit.int .i64 a).wf = true) : -9223372036854775808 ≤ a ∧ a ≤ 9223372036854775807 := by
  simpa [Lit.wf, IntKind.min, IntKind.max, IntKind.signed, IntKind.bits] using h
theorem back_u8 {a : Int} (h : (Lit.int .u8 a).wf = true) : 0 ≤ a ∧ a < 256 := by
  have : 0 ≤ a ∧ a ≤ 255 := by simpa [Lit.wf, IntKind.min, IntKind.max, IntKind.signed, IntKind.bits] using h
  omega
theorem back_zig {f : S47} (h : good47 f) : ∀ x ∈ f.f2, zig x.f4 < 18446744073709551616 := fun x hx => by
  have := back_i64 (h.2.2.2 x hx).2.2.2.2.1
  unfold zig
  split <;> omega
theorem back_light (l : List S47) (hl : l.length * 56 ≤ 140737488351232) (hg : ∀ x_ ∈ l, good47 x_) : ∃ b, Ev (fun k => turntablelaw33_light.f k l) b :=
  light_any l (by omega) (fun i h0 h1 => by
    obtain ⟨n, rfl⟩ : ∃ n : Nat, i = n := ⟨i.toNat, by omega⟩
    rw [rd47_at l n (by omega)]
    exact (back_fit (hg _ (List.getElem_mem (by omega)))).c)
theorem back_j1 (b : List Int) (hb : Bytes b) (hl : b.length ≤ 800) : Ev (fun k => turntablelaw33_CodeBack.j1 k b) true := by
  have hr := read_any b hb (by omega)
  refine Ev.step (fun k => by simp only [turntablelaw33_CodeBack.j1]; rfl) ?_
  cases hq : readP b with
  | none =>
    rw [hq] at hr
    obtain ⟨c, e, hc, he, hr⟩ := hr
    exact ev_bind' hr (ev_neg hc (ev_pos (c := ((([] : List S47).length : Nat) : Int) = 0) rfl (ev_pos he (ev_bind' back_works (Ev.now _)))))
  | some x =>
    rw [hq] at hr
    obtain ⟨e1, hx, hfx⟩ := readP_some hb (by omega) hq
    replace hr : Ev _ (if (chk x).1 = 0 then (x, 0, 0) else ([], (chk x).1, wrap64 ((b.length : Int) + (chk x).2))) := hr
    by_cases h0 : (chk x).1 = 0
    · rw [if_pos h0] at hr
      obtain ⟨g1, g2⟩ := good_all (fun f hf y hy => (hfx f hf).2 y hy) h0
      exact ev_bind' hr (ev_pos (c := (0 : Int) = 0) rfl (ev_bind' (prog_chk x (fun f hf => (hfx f hf).1)) (ev_pos h0 (ev_bind' (bytes_any x g1 g2 (by rw [← e1]; omega)) (ev_pos (c := (strOfNums (encA x)).toList = (strOfNums b).toList) (by rw [← e1]) (ev_bind' back_works (Ev.now _)))))))
    · rw [if_neg h0] at hr
      have ha := chk_at x hx
      have hw : wrap64 ((b.length : Int) + (chk x).2) ≥ 0 := by rw [w64 (by omega) (by omega)]; omega
      exact ev_bind' hr (ev_neg h0 (ev_pos (c := ((([] : List S47).length : Nat) : Int) = 0) rfl (ev_pos hw (ev_bind' back_works (Ev.now _)))))

theorem CodeBack : CodeBack.Good := by
  rintro l b ⟨hl, hg⟩ ⟨-, hbg⟩
  have hf : ∀ f ∈ l, Fit f := fun f h => back_fit (hg f h)
  obtain ⟨q, hq⟩ := back_light l hl hg
  refine Ev.rounds (g := fun k => turntablelaw33_CodeBack.f k l b) ?_
  unfold turntablelaw33_CodeBack.f
  refine ev_bind' hq ?_
  have ht : Ev (fun k => turntablelaw33_CodeBack.j0 k l b true) true := Ev.step (fun k => by simp only [turntablelaw33_CodeBack.j0]; rfl) (ev_pos (c := (true = true)) rfl (ev_bind' back_works (Ev.now _)))
  cases q
  · exact ev_neg (by simp) ht
  · refine ev_pos rfl ?_
    by_cases h8 : (b.length : Int) > 800
    · rw [decide_eq_true h8]; exact ht
    · rw [decide_eq_false h8]
      have hj1 := back_j1 b (fun c hc => back_u8 (hbg c hc)) (by omega)
      refine Ev.step (fun k => by simp only [turntablelaw33_CodeBack.j0]; rfl) (ev_neg (by simp) (ev_bind' (ref_chk l hf) ?_))
      by_cases h0 : (chk l).1 = 0
      · obtain ⟨g1, g2⟩ := good_all (fun f hf => back_zig (hg f hf)) h0
        obtain ⟨n1, n2⟩ := encA_fit l g1 g2
        have hr := read_any (encA l) n2 (by omega)
        rw [readP_enc g1 g2] at hr
        replace hr : Ev _ (if (chk l).1 = 0 then (l, 0, 0) else ([], (chk l).1, wrap64 (((encA l).length : Int) + (chk l).2))) := hr
        rw [if_pos h0] at hr
        exact ev_pos h0 (ev_bind' (bytes_any l g1 g2 n1) (ev_bind' hr (ev_pos (c := (0 : Int) = 0) rfl (ev_bind' (same_any l (by omega) hf) (ev_pos rfl hj1)))))
      · exact ev_neg h0 hj1
end Go.Proofs.Ytpjehipemljkpaa.Pure
