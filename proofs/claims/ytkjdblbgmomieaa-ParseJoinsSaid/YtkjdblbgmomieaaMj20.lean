import Derived.Test.YtkjdblbgmomieaaMj18
import Derived.Test.YtkjdblbgmomieaaMj19
import Derived.KernelRfl
import Derived.Test.YtkjdblbgmomieaaMj8
import Derived.Test.YtkjdblbgmomieaaMj1
import Derived.Test.YtkjdblbgmomieaaMj15
import Derived.Test.YtkjdblbgmomieaaRows
import Derived.WalkKit
import Derived.ProofKit
import Derived.OpenShut
import Derived.ShutString
import Derived.ChangeOld
import Derived.Below
import Derived.SizedLaws
-- from YtkjdblbgmomieaaSaidParseJoins
section
namespace Go.Proofs.Ytkjdblbgmomieaa.ParseJoinsSaid
open Go.RowKit Go.Proofs.Ytkjdblbgmomieaa.PSh Go.Proofs.Ytkjdblbgmomieaa.Open Go.Proofs.YtkjdblbgmomieaaW.PrintWords Go.Proofs.YtkjdblbgmomieaaW.PrintLast
set_option linter.unusedVariables false
def ParseJoins.Good : Prop := ∀ (a0 : ByteArray) (a1 : ByteArray), (a0.size ≤ 140737488351232) → (a1.size ≤ 140737488351232) → ∃ k, turntablelaw06_ParseJoins.f k a0 a1 = some true
end Go.Proofs.Ytkjdblbgmomieaa.ParseJoinsSaid
end
-- from YtkjdblbgmomieaaPLaw
section
namespace Go.Proofs.Ytkjdblbgmomieaa.PSh
open Go.RowKit Go.Proofs.YtkjdblbgmomieaaW.PrintWords Go.Proofs.YtkjdblbgmomieaaW.PrintLast Go.Proofs.YtkjdblbgmomieaaW.PrintMore Go.Proofs.Ytkjdblbgmomieaa.Str
set_option linter.unusedVariables false
set_option linter.unusedSimpArgs false
theorem mem_rd_ {α : Type} (l : List α) (z : α) (x : Int) (h0 : 0 ≤ x) (h1 : x < (l.length : Int)) : l.getD x.toNat z ∈ l := by
  have h : x.toNat < l.length := by omega
  rw [List.getD_eq_getElem?_getD, List.getElem?_eq_getElem h]
  exact List.getElem_mem h
end Go.Proofs.Ytkjdblbgmomieaa.PSh
end
-- from YtkjdblbgmomieaaPSame
section
namespace Go.Proofs.Ytkjdblbgmomieaa.PSh
open Go.RowKit Go.Proofs.YtkjdblbgmomieaaW.PrintWords Go.Proofs.YtkjdblbgmomieaaW.PrintLast Go.Proofs.YtkjdblbgmomieaaW.PrintMore Go.Proofs.Ytkjdblbgmomieaa.Str
set_option linter.unusedVariables false
set_option linter.unusedSimpArgs false
theorem ints_l0 (l : List Int) (hl : l.length ≤ 4611686018427387904) : ∀ (m : Nat) (x : Int), 0 ≤ x → x ≤ (l.length : Int) → l.length - x.toNat = m → Ev (fun k => turntableref05_Ints.l0 k l l x) true := by
  intro m
  induction m with
  | zero =>
    intro x h0 h1 hm
    refine Ev.step (f := fun _ => some true) (fun k => ?_) (Ev.now _)
    simp only [turntableref05_Ints.l0]
    rw [if_neg (by omega)]
  | succ m ih =>
    intro x h0 h1 hm
    refine Ev.step (fun k => ?_) (ih (x + 1) (by omega) (by omega) (by omega))
    simp only [turntableref05_Ints.l0]
    rw [if_pos (by omega), if_pos h0, if_pos (by omega), if_pos trivial, w64 (by omega) (by omega)]
theorem ints_ev (l : List Int) (hl : l.length ≤ 4611686018427387904) : Ev (fun k => turntableref05_Ints.f k l l) true := by
  unfold turntableref05_Ints.f
  exact ev_pos rfl (ints_l0 l hl _ 0 (by omega) (by omega) rfl)
theorem nrm_eq {x y : SI} (h : nrm x = nrm y) : x.f0 = y.f0 ∧ x.f1 = y.f1 ∧ x.f2 = y.f2 ∧ x.f3 = y.f3 ∧ x.f4 = y.f4 ∧ x.f5 = y.f5 ∧ x.f6 = y.f6 := by
  cases x; cases y
  simp only [nrm, S39.mk.injEq] at h
  obtain ⟨h0, h1, h2, h3, h4, h5, h6, -⟩ := h
  exact ⟨h0, h1, h2, h3, h4, h5, h6⟩
theorem same_ev {x y : SI} (h : nrm x = nrm y) (h4 : x.f4.length ≤ 4611686018427387904) (h5 : x.f5.length ≤ 4611686018427387904) : Ev (fun k => turntableref05_Same.f k x.f0 x.f1 x.f2 x.f3 x.f4 x.f5 x.f6 x.f7 y.f0 y.f1 y.f2 y.f3 y.f4 y.f5 y.f6 y.f7) true := by
  obtain ⟨e0, e1, e2, e3, e4, e5, e6⟩ := nrm_eq h
  unfold turntableref05_Same.f
  refine ev_pos e0 (ev_pos e1 (ev_pos e2 (ev_pos e3 ?_)))
  rw [← e4, ← e5, ← e6, show (x.f6.toList != x.f6.toList) = false from bne_self_eq_false ..]
  refine Ev.step (fun k => by simp only [turntableref05_Same.j0]; rw [if_neg (by decide)]) ?_
  exact Ev.bind (ints_ev _ h4) (ev_pos rfl (Ev.bind (ints_ev _ h5) (Ev.now _)))
theorem map_get {α β : Type} {f : α → β} {l l' : List α} (h : l.map f = l'.map f) (z : α) (n : Nat) : f (l.getD n z) = f (l'.getD n z) := by
  have h1 : ∀ l : List α, f (l.getD n z) = (l.map f).getD n (f z) := fun l => by
    rw [List.getD_eq_getElem?_getD, List.getD_eq_getElem?_getD, List.getElem?_map]
    cases l[n]? <;> rfl
  rw [h1, h1, h]
section
variable (f g : SF) (hb : f.f3.map (List.map nrm) = g.f3.map (List.map nrm)) (hf : FewF 100000 f)
include hb hf
theorem sf_l1 (j : Int) (hj0 : 0 ≤ j) (hj1 : j < (f.f3.length : Int)) (hn : Ev (fun k => turntableref05_SameFunc.l0 k (j + 1) f.f0 f.f1 f.f2 f.f3 f.f4 g.f0 g.f1 g.f2 g.f3 g.f4) true) : ∀ (m : Nat) (x : Int), 0 ≤ x → x ≤ ((rd_L4 f.f3 j).length : Int) → (rd_L4 f.f3 j).length - x.toNat = m → Ev (fun k => turntableref05_SameFunc.l1 k j x f.f0 f.f1 f.f2 f.f3 f.f4 g.f0 g.f1 g.f2 g.f3 g.f4) true := by
  have hl := hf.2.1
  have hB : (rd_L4 f.f3 j).map nrm = (rd_L4 g.f3 j).map nrm := map_get hb ([] : List SI) j.toNat
  have hlen : g.f3.length = f.f3.length := by have := congrArg List.length hb; simpa using this.symm
  have hlb : (rd_L4 g.f3 j).length = (rd_L4 f.f3 j).length := by have := congrArg List.length hB; simpa using this.symm
  have hfew : FewB 100000 (rd_L4 f.f3 j) := hf.2.2 _ (mem_rd_ f.f3 [] j hj0 hj1)
  have hfl := hfew.1
  intro m
  induction m with
  | zero =>
    intro x h0 h1 hm
    refine Ev.step (fun k => ?_) hn
    simp only [turntableref05_SameFunc.l1]
    rw [if_pos hj0, if_pos hj1, if_neg (by omega), w64 (x := j + 1) (by omega) (by omega)]
  | succ m ih =>
    intro x h0 h1 hm
    have hlt : x < ((rd_L4 f.f3 j).length : Int) := by omega
    have hx : nrm (rd_T39 (rd_L4 f.f3 j) x) = nrm (rd_T39 (rd_L4 g.f3 j) x) := map_get hB z39 x.toNat
    have hfx : Few 100000 (rd_T39 (rd_L4 f.f3 j) x) := hfew.2 _ (mem_rd_ _ z39 x h0 hlt)
    have hs := same_ev hx (by have := hfx.1; omega) (by have := hfx.2; omega)
    refine Ev.step (fun k => ?_) (Ev.bind hs (ev_pos rfl (ih (x + 1) (by omega) (by omega) (by omega))) (f := fun k t => if t = true then turntableref05_SameFunc.l1 k j (x + 1) f.f0 f.f1 f.f2 f.f3 f.f4 g.f0 g.f1 g.f2 g.f3 g.f4 else some false))
    simp only [turntableref05_SameFunc.l1]
    rw [if_pos hj0, if_pos hj1, if_pos hlt, if_pos h0, if_pos (by omega), if_pos (by omega), w64 (x := x + 1) (by omega) (by omega)]
theorem sf_l0 : ∀ (m : Nat) (j : Int), 0 ≤ j → j ≤ (f.f3.length : Int) → f.f3.length - j.toNat = m → Ev (fun k => turntableref05_SameFunc.l0 k j f.f0 f.f1 f.f2 f.f3 f.f4 g.f0 g.f1 g.f2 g.f3 g.f4) true := by
  have hlen : g.f3.length = f.f3.length := by have := congrArg List.length hb; simpa using this.symm
  intro m
  induction m with
  | zero =>
    intro j h0 h1 hm
    refine Ev.step (f := fun _ => some true) (fun k => ?_) (Ev.now _)
    simp only [turntableref05_SameFunc.l0]
    rw [if_neg (by omega)]
  | succ m ih =>
    intro j h0 h1 hm
    have hlt : j < (f.f3.length : Int) := by omega
    have hB : (rd_L4 f.f3 j).map nrm = (rd_L4 g.f3 j).map nrm := map_get hb ([] : List SI) j.toNat
    have hlb : (rd_L4 g.f3 j).length = (rd_L4 f.f3 j).length := by have := congrArg List.length hB; simpa using this.symm
    refine Ev.step (fun k => ?_) (sf_l1 f g hb hf j h0 hlt (ih (j + 1) (by omega) (by omega) (by omega)) _ 0 (by omega) (by omega) rfl)
    simp only [turntableref05_SameFunc.l0]
    rw [if_pos hlt, if_pos h0, if_pos (by omega), if_pos (by omega)]
end
theorem samef_ev {f g : SF} (h : nrmF f = nrmF g) (hf : FewF 100000 f) : Ev (fun k => turntableref05_SameFunc.f k f.f0 f.f1 f.f2 f.f3 f.f4 g.f0 g.f1 g.f2 g.f3 g.f4) true := by
  have e0 : f.f0 = g.f0 := by have q := congrArg (fun q : SF => q.f0) h; exact q
  have e1 : f.f1 = g.f1 := by have q := congrArg (fun q : SF => q.f1) h; exact q
  have e2 : f.f2 = g.f2 := by have q := congrArg (fun q : SF => q.f2) h; exact q
  have e3 : f.f3.map (List.map nrm) = g.f3.map (List.map nrm) := by have q := congrArg (fun q : SF => q.f3) h; exact q
  have hlen : g.f3.length = f.f3.length := by have := congrArg List.length e3; simpa using this.symm
  have l0 := sf_l0 f g e3 hf _ 0 (by omega) (by omega) rfl
  unfold turntableref05_SameFunc.f
  refine ev_pos (by rw [e0]) (ev_pos e2 ?_)
  have hi := ints_ev f.f1 (by have := hf.1; omega)
  have hi2 : Ev (fun k => turntableref05_Ints.f k f.f1 g.f1) true := by rw [← e1]; exact hi
  refine Ev.bind hi2 (ev_pos rfl ?_)
  rw [show ((f.f3.length : Int) != (g.f3.length : Int)) = false from by rw [hlen]; exact bne_self_eq_false ..]
  refine Ev.step (fun k => by simp only [turntableref05_SameFunc.j0]; rw [if_neg (by decide)]) l0
theorem samep_l0 {fs gs : List SF} (h : fs.map nrmF = gs.map nrmF) (hl : fs.length ≤ 100000) (hf : ∀ f ∈ fs, FewF 100000 f) : ∀ (m : Nat) (i : Int), 0 ≤ i → i ≤ (fs.length : Int) → fs.length - i.toNat = m → Ev (fun k => turntableref05_SameProg.l0 k i fs gs) true := by
  have hlen : gs.length = fs.length := by have := congrArg List.length h; simpa using this.symm
  intro m
  induction m with
  | zero =>
    intro i h0 h1 hm
    refine Ev.step (f := fun _ => some true) (fun k => ?_) (Ev.now _)
    simp only [turntableref05_SameProg.l0]
    rw [if_neg (by omega)]
  | succ m ih =>
    intro i h0 h1 hm
    have hlt : i < (fs.length : Int) := by omega
    have hx : nrmF (rd_T34 fs i) = nrmF (rd_T34 gs i) := map_get h z34 i.toNat
    have hs := samef_ev hx (hf _ (mem_rd_ _ z34 i h0 hlt))
    refine Ev.step (fun k => ?_) (Ev.bind hs (ev_pos rfl (ih (i + 1) (by omega) (by omega) (by omega))) (f := fun k t => if t = true then turntableref05_SameProg.l0 k (i + 1) fs gs else some false))
    simp only [turntableref05_SameProg.l0]
    rw [if_pos hlt, if_pos h0, if_pos (by omega), w64 (x := i + 1) (by omega) (by omega)]
theorem samep_ev {fs gs : List SF} (h : fs.map nrmF = gs.map nrmF) (hl : fs.length ≤ 100000) (hf : ∀ f ∈ fs, FewF 100000 f) : Ev (fun k => turntableref05_SameProg.f k fs gs) true := by
  have hlen : gs.length = fs.length := by have := congrArg List.length h; simpa using this.symm
  unfold turntableref05_SameProg.f
  exact ev_pos (by rw [hlen]) (samep_l0 h hl hf _ 0 (by omega) (by omega) rfl)
end Go.Proofs.Ytkjdblbgmomieaa.PSh
end
-- from YtkjdblbgmomieaaPureParseJoins
section
namespace Go.Proofs.Ytkjdblbgmomieaa.Pure
open Go.RowKit Go.Proofs.Ytkjdblbgmomieaa.PSh Go.Proofs.Ytkjdblbgmomieaa.ParseJoinsSaid Go.Proofs.YtkjdblbgmomieaaW.PrintWords Go.Proofs.YtkjdblbgmomieaaW.PrintLast Go.Proofs.Ytkjdblbgmomieaa.Str
set_option linter.unusedVariables false
theorem parse_is {s : ByteArray} (hs : s.size ≤ 3001) : parse_Text.f s = some (parseP s) := if_pos (split_facts (by omega)).1
theorem ParseJoins : ParseJoins.Good := by
  intro s t _ _
  refine Ev.rounds (r := true) ?_
  unfold turntablelaw06_ParseJoins.f
  refine ev_if (fun _ => Ev.now _) (fun h1 => ?_)
  refine ev_if (fun _ => Ev.now _) (fun h2 => ?_)
  refine ev_some (parse_is (by omega)) (ev_some (parse_is (by omega)) ?_)
  refine ev_if (fun h3 => ?_) (fun _ => Ev.now _)
  refine ev_if (fun h4 => ?_) (fun _ => Ev.now _)
  refine ev_if (fun _ => Ev.now _) (fun h5 => ?_)
  obtain ⟨hs, e, hm, hl, hf⟩ := parse_join (s := s) (t := t) (by omega) (by omega) h3 h4 (by omega)
  have e10 : ((s ++ (⟨#[10]⟩ : ByteArray)) ++ t).size = s.size + 1 + t.size := by rw [ByteArray.size_append, ByteArray.size_append]; rfl
  refine ev_some ((parse_is (by omega)).trans (congrArg some e)) (ev_pos rfl ?_)
  have hl2 : hs.length ≤ 100000 := by omega
  exact Ev.bind (samep_ev hm hl2 hf) (ev_pos rfl (Ev.now _))
end Go.Proofs.Ytkjdblbgmomieaa.Pure
end
-- from YtkjdblbgmomieaaLawParseJoins
section
namespace Go.Proofs.Ytkjdblbgmomieaa.parseJoins
open Go.ChangeShapes Go.WideShapes Go.ChangeAt Go.RowKit
open Go.ChangeMaps (open_string shut_string)
open Go.Proofs.Ytkjdblbgmomieaa.PSh Go.Proofs.Ytkjdblbgmomieaa.Open Go.Proofs.Ytkjdblbgmomieaa.ParseJoinsSaid
set_option linter.unusedVariables false
theorem own : ownKnob Try.prog.godebug = none := by kernel_rfl
theorem laidOut : laidOutB Try.prog = true := by kernel_rfl
set_option maxHeartbeats 4000000 in
set_option maxRecDepth 100000 in
theorem lifted (os : Os) (started : os.Started) (H : Type) (enc : TypeId × Value → H) :
    ReturnsInHanded {} Try.checked os 7 .any (Rows.parseJoinsSpec.pre6 enc Try.prog Try.f7 Rows.parseJoinsRow.domain false) (Rows.parseJoinsSpec.post enc Try.prog Try.f7 false true false false) := by
  refine returnsInHanded_of_change_sized (C := Try.checked) own started (by kernel_rfl) Try.func7
    (ChangeSpec.witness6 (enc := enc) (C := Try.checked) false ⟨#[], #[.string ByteArray.empty, .string ByteArray.empty], []⟩ 8 (by kernel_rfl) (by kernel_rfl) (by kernel_rfl) (by kernel_rfl)) ?_
  intro W base args ds gs before hval0 hW hcnd hsz0 _
  have hsz : (DataW.weightsEach Try.prog (Try.f7.params.toList ++ Rows.parseJoinsSpec.plain.varTypes Try.prog) (ds ++ gs)).all (· ≤ reachBytes) = true := hsz0
  have hval : ∀ (j : Nat) t v, Try.f7.params[j]? = some t → args[j]? = some v → Value.okWide Try.prog W .any base t v := hval0
  have hW' := hW
  obtain ⟨p, q, hA0, hV, rfl, hfz, hnd⟩ := hW
  have hA : DataW.TrodAll enc Try.prog W 0 (fun _ => true) true Try.f7.params.toList args.toList ds p := hA0
  rw [Try.params7] at hA hval hsz
  obtain ⟨v0, vs0, d0, ds0, p0, q0, hargs, rfl, rfl, h0, r0⟩ := trodAll_cons hA
  obtain ⟨v1, vs1, d1, ds1, p1, q1, rfl, rfl, rfl, h1, r1⟩ := trodAll_cons r0
  obtain ⟨rfl, rfl, rfl⟩ := trodAll_nil r1
  obtain rfl : args = #[v0, v1] := by cases args; simp_all
  obtain ⟨rfl, rfl⟩ := trodVars_none hV
  obtain ⟨a0, rfl, rfl, rfl, y0⟩ := open_string Try.underlying9 (hval 0 9 v0 rfl rfl) h0
  have w0 : a0.size ≤ 140737488351232 := by
    have z := sized_string hsz (j := 0) (t := 9) rfl rfl
    rw [Array.length_toList] at z
    exact z
  obtain ⟨a1, rfl, rfl, rfl, y1⟩ := open_string Try.underlying9 (hval 1 9 v1 rfl rfl) h1
  have w1 : a1.size ≤ 140737488351232 := by
    have z := sized_string hsz (j := 1) (t := 9) rfl rfl
    rw [Array.length_toList] at z
    exact z
  clear hA0 hval0 hsz0 hsz
  obtain ⟨k, hk⟩ := Pure.ParseJoins a0 a1 w0 w1
  refine (turntablelaw06_ParseJoins.calls k a0 a1 true W hk).mono ?_
  rintro e W' ⟨rfl, hd_⟩
  have bel : Below W.heap.size W W' := hd_
  exact ⟨_, rfl, _, _, _, [], _, [], hW', trodAll_mk1 (shut_bool Try.underlying4 _), (trodAll_cons_mk (shut_string Try.underlying9 y0) (trodAll_cons_mk (shut_string Try.underlying9 y1) trodAll_mk0)), rfl, bel.frame _, fun h => by cases h⟩
theorem over : Rows.parseJoinsRow.holds Try.pinned (OpenSpec.ofChange Rows.parseJoinsSpec) :=
  OpenClaim.holds_of_wide 7 Try.f7 rfl rfl rfl rfl rfl rfl rfl ⟨rfl, rfl, rfl, rfl, rfl⟩ rfl rfl rfl rfl rfl (by kernel_rfl) Try.func7 (by kernel_rfl)
    (of_decide_eq_true (by kernel_rfl)) (by unfold Func.isWrapper; first | (rw [if_pos (by decide +kernel)]; kernel_rfl) | (rw [if_neg (by decide +kernel)]; exact ⟨rfl, rfl⟩))
    (fun os started H enc _ => lifted os started H enc)
theorem proved : Rows.ParseJoinsSaid := over
#print axioms proved
end Go.Proofs.Ytkjdblbgmomieaa.parseJoins
namespace Go.Proofs.Ytkjdblbgmomieaa
theorem parseJoins_holds : Rows.ParseJoinsSaid := parseJoins.proved
end Go.Proofs.Ytkjdblbgmomieaa
end
