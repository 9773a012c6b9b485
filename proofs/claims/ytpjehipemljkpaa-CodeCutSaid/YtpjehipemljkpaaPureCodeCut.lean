/- Bytes that end too early are no bodies: the plain law behind CodeCut. -/
import Derived.Test.YtpjehipemljkpaaSaidCodeCut
import Derived.Test.YtpjehipemljkpaaCodeWrite
namespace Go.Proofs.Ytpjehipemljkpaa.Pure
open Go.RowKit Go.Proofs.Ytpjehipemljkpaa.PCo Go.Proofs.Ytpjehipemljkpaa.CodeCutSaid Go.Proofs.YtpjehipemljkpaaW.PrintWords Go.Proofs.YtpjehipemljkpaaW.PrintLast Go.Proofs.Ytpjehipemljkpaa.Str Go.Proofs.Ytpjehipemljkpaa.CodeLaw

theorem cut_works : Ev (fun k => turntablelaw33_works.f k) true :=
  Ev.of (fun k => turntablelaw33_works.mono k) (k := 30) (by decide +kernel)
theorem cut_fit {f : S47} (h : good47 f) : Fit f :=
  ⟨by have := h.1.1; omega, by have := h.2.2.1; omega, fun x hx => by have := (h.2.2.2 x hx).2.2.2.2.2.1.1; omega⟩
theorem cut_i64 {a : Int} (h : (Lit.int .i64 a).wf = true) : -9223372036854775808 ≤ a ∧ a ≤ 9223372036854775807 := by
  simpa [Lit.wf, IntKind.min, IntKind.max, IntKind.signed, IntKind.bits] using h
theorem cut_u16 {a : Int} (h : (Lit.int .u16 a).wf = true) : 0 ≤ a ∧ a < 65536 := by
  have : 0 ≤ a ∧ a ≤ 65535 := by simpa [Lit.wf, IntKind.min, IntKind.max, IntKind.signed, IntKind.bits] using h
  omega
theorem cut_zig {f : S47} (h : good47 f) : ∀ x ∈ f.f2, zig x.f4 < 18446744073709551616 := fun x hx => by
  have := cut_i64 (h.2.2.2 x hx).2.2.2.2.1
  unfold zig
  split <;> omega
theorem cut_light (l : List S47) (hl : l.length * 56 ≤ 140737488351232) (hg : ∀ x_ ∈ l, good47 x_) : ∃ b, Ev (fun k => turntablelaw33_light.f k l) b :=
  light_any l (by omega) (fun i h0 h1 => by
    obtain ⟨n, rfl⟩ : ∃ n : Nat, i = n := ⟨i.toNat, by omega⟩
    rw [rd47_at l n (by omega)]
    exact (cut_fit (hg _ (List.getElem_mem (by omega)))).c)

theorem CodeCut : CodeCut.Good := by
  rintro l a ⟨hl, hg⟩ ha
  have ha := cut_u16 ha
  have hf : ∀ f ∈ l, Fit f := fun f h => cut_fit (hg f h)
  obtain ⟨q, hq⟩ := cut_light l hl hg
  refine Ev.rounds (g := fun k => turntablelaw33_CodeCut.f k l a) ?_
  unfold turntablelaw33_CodeCut.f
  refine ev_bind' hq ?_
  have ht : Ev (fun k => (turntablelaw33_works.f k).bind fun t => some t) true := ev_bind' cut_works (Ev.now _)
  cases q
  · exact ev_neg (by simp) ht
  · refine ev_pos rfl (ev_bind' (ref_chk l hf) ?_)
    by_cases h0 : (chk l).1 = 0
    · obtain ⟨g1, g2⟩ := good_all (fun f hf => cut_zig (hg f hf)) h0
      obtain ⟨n1, n2⟩ := encA_fit l g1 g2
      have hpos : 0 < (encA l).length := by
        unfold encA
        rw [List.length_append, vint]
        split <;> simp <;> omega
      have hw : wrap64 a = a := w64 (by omega) (by omega)
      have hm : Int.tmod (wrap64 a) ((encA l).length : Int) = ((a.toNat % (encA l).length : Nat) : Int) := by
        obtain ⟨n, rfl⟩ : ∃ n : Nat, a = n := ⟨a.toNat, by omega⟩
        rw [hw, Int.tmod_eq_emod_of_nonneg (by omega), Int.toNat_natCast, Int.natCast_emod]
      have hlt : a.toNat % (encA l).length < (encA l).length := Nat.mod_lt _ hpos
      refine ev_pos h0 (ev_bind' (bytes_any l g1 g2 n1) (ev_neg (by omega) ?_))
      rw [hm]
      refine ev_pos (by omega) (ev_pos (by omega) ?_)
      rw [Int.toNat_natCast]
      generalize a.toNat % (encA l).length = m at hlt ⊢
      have hby : Bytes ((encA l).take m) := fun c hc => n2 c (List.mem_of_mem_take hc)
      have hr := read_any _ hby (by rw [List.length_take]; omega)
      cases hp : readP ((encA l).take m) with
      | none =>
        rw [hp] at hr
        obtain ⟨c, e, hc, he, hr⟩ := hr
        exact ev_bind' hr (ev_neg hc ht)
      | some x =>
        rw [hp] at hr
        have hn := readP_cut g1 g2 m hlt hp
        replace hr : Ev _ (if (chk x).1 = 0 then (x, 0, 0) else ([], (chk x).1, wrap64 ((((encA l).take m).length : Int) + (chk x).2))) := hr
        rw [if_neg hn] at hr
        exact ev_bind' hr (ev_neg hn ht)
    · exact ev_neg h0 ht
end Go.Proofs.Ytpjehipemljkpaa.Pure
