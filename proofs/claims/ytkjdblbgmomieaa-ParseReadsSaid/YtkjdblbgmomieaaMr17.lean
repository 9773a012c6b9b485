import Derived.Test.YtkjdblbgmomieaaMr16
import Derived.Test.YtkjdblbgmomieaaMr6
-- from YtkjdblbgmomieaaHPInstr
section
namespace Go.Proofs.Ytkjdblbgmomieaa.PSh
set_option maxHeartbeats 8000000
set_option maxRecDepth 100000
open Go.RowKit Go.Proofs.YtkjdblbgmomieaaW.PrintWords Go.Proofs.YtkjdblbgmomieaaW.PrintLast Go.Proofs.YtkjdblbgmomieaaW.PrintMore Go.Proofs.Ytkjdblbgmomieaa.Str Go.Proofs.Ytkjdblbgmomieaa.Dig Go.Proofs.Ytkjdblbgmomieaa.DigLaw
set_option linter.unusedVariables false
set_option linter.unusedSimpArgs false
structure JPAt (g bz bx:Nat) (tl ts:List Tk) (x:SI) (va vt:Value) (en n:Int) (w0 w w':World):Prop where
  x:IPAt g bx tl ts x va vt en n w0 w w'
  zero:w'.heap[bz]?=some (.cells #[.int .i64 0,.int .i64 0,.int .i64 0,.int .i64 0,.slice none 0 0,.slice none 0 0,.string ⟨#[]⟩,.int .i64 0] 39 (0,0))
  gl:g<w.heap.size
  ge:w.heap.size≤bz
  lt:bz<bx
section
variable {g bz bx : Nat} {tl ts us : List Tk} {x : SI} {va vt v1 : Value} {en n m : Int} {w0 w w1 w2 : World}
theorem JPAt.call (h:JPAt g bz bx tl ts x va vt en n w0 w w1) (hp:PAt g tl us en m w0 w2) (hk:KeepBut w1 w2 g none):JPAt g bz bx tl us x va vt en m w0 w w2:=
  ⟨h.x.call hp hk,hk.blk h.zero (by have:=h.gl;have:=h.ge;omega) (by simp),h.gl,h.ge,h.lt⟩
theorem JPAt.below (h:JPAt g bz bx tl ts x va vt en n w0 w w1) (hb:Below w1.heap.size w1 w2):JPAt g bz bx tl ts x va vt en n w0 w w2:=h.call (h.x.p.below hb) (KeepBut.of_below hb g none)
theorem JPAt.put (h:JPAt g bz bx tl ts x va vt en n w0 w w1) (x2:SI) (j:Nat) (u:Value) (hc:(iObj x va vt).setIfInBounds j u=iObj x2 va vt) (h4:x2.f4=x.f4) (h5:x2.f5=x.f5):JPAt g bz bx tl ts x2 va vt en n w0 w (w1.setCell ⟨bx,j,none⟩ u):=
  ⟨h.x.put x2 j u hc h4 h5,(Below.heap_setCell w1 ⟨bx,j,none⟩ u _ (by have:=h.lt;show bz≠bx;omega)).trans h.zero,h.gl,h.ge,h.lt⟩
theorem JPAt.step (h:JPAt g bz bx tl ts x va vt en n w0 w w1) {u:Value} (hp:PAt g tl us en m w0 (w1.setCell ⟨g,1,none⟩ u)):JPAt g bz bx tl us x va vt en m w0 w (w1.setCell ⟨g,1,none⟩ u):=h.call hp ((KeepBut.refl w1 g none).set_ 1 _)
theorem JPAt.keep (h:JPAt g bz bx tl ts x va vt en n w0 w w1):KeepBut w w1 g none:=⟨h.x.k.1,fun i hi hg _=>h.x.k.2 i hi hg (by have:=h.ge;have:=h.lt;simp;omega)⟩
theorem JPAt.bad (h:JPAt g bz bx tl ts x va vt en n w0 w w1) (hb:Below w0.heap.size w0 w2) (hk:KeepBut w1 w2 g none):Below w0.heap.size w0 w2∧KeepBut w w2 g none:=⟨hb,h.keep.trans hk (.inl rfl)⟩
theorem JPAt.bad2 (h:JPAt g bz bx tl ts x va vt en n w0 w w1) (hb:Below w0.heap.size w0 w2) (hk:KeepBut w1 w2 g (some bx)):Below w0.heap.size w0 w2∧KeepBut w w2 g none:=
  ⟨hb,h.keep.trans hk (.inr ⟨bx,rfl,by have:=h.ge;have:=h.lt;omega⟩)⟩
theorem JPAt.oper {x2:SI} (h:JPAt g bz bx tl ts x va vt en n w0 w w1) {va2 vt2:Value} (hx:IPAt g bx tl us x2 va2 vt2 en n w0 w1 w2):JPAt g bz bx tl us x2 va2 vt2 en n w0 w w2:=
  ⟨⟨hx.p,⟨Nat.le_trans h.x.k.1 hx.k.1,fun i hi hg hr=>(hx.k.2 i (Nat.lt_of_lt_of_le hi h.x.k.1) hg hr).trans (h.x.k.2 i hi hg hr)⟩,h.x.wb,h.x.bb,hx.box,hx.two.lower h.x.k.1⟩,
    hx.k.blk h.zero (by have:=h.gl;have:=h.ge;omega) (by have:=h.lt;simp;omega),h.gl,h.ge,h.lt⟩
theorem JPAt.at1 (h:JPAt g bz bx tl ts x va vt en n w0 w w1) (j:Nat):w1.cell? ⟨bx,j,none⟩=(iObj x va vt)[j]?:=blk_cell h.x.box j
theorem two_setz (h:JPAt g bz bx tl ts x va vt en n w0 w w1) {z:Array Value} (hz:w2.heap[bz]?=some (.cells z 39 (0,0))) (ht:TwoR w2 w.heap.size va vt x.f4 x.f5) (hp:PAt g tl ts en n w0 w2) (hk:KeepBut w w2 g none) (j:Nat) (u:Value):
    (w2.setCell ⟨bz,j,none⟩ u).heap[bz]?=some (.cells (z.setIfInBounds j u) 39 (0,0))∧TwoR (w2.setCell ⟨bz,j,none⟩ u) w.heap.size va vt x.f4 x.f5∧PAt g tl ts en n w0 (w2.setCell ⟨bz,j,none⟩ u)∧KeepBut w (w2.setCell ⟨bz,j,none⟩ u) g none:=by
  have h1:=h.gl
  have h2:=h.ge
  have h3:=h.x.wb
  exact ⟨blk_put hz j u rfl,ht.set hz (by decide) j u,hp.far (by omega) (by omega) j u,keep_far hk (by show _≤bz;omega) u⟩
theorem JPAt.fin (h:JPAt g bz bx tl ts x va vt en n w0 w w1) (c0 c1 c2 c3 c4 c5 c6 c7:Value):
    ((((((((w1.setCell ⟨bz,0,none⟩ c0).setCell ⟨bz,1,none⟩ c1).setCell ⟨bz,2,none⟩ c2).setCell ⟨bz,3,none⟩ c3).setCell ⟨bz,4,none⟩ c4).setCell ⟨bz,5,none⟩ c5).setCell ⟨bz,6,none⟩ c6).setCell ⟨bz,7,none⟩ c7).heap[bz]?=some (.cells #[c0,c1,c2,c3,c4,c5,c6,c7] 39 (0,0))∧TwoR ((((((((w1.setCell ⟨bz,0,none⟩ c0).setCell ⟨bz,1,none⟩ c1).setCell ⟨bz,2,none⟩ c2).setCell ⟨bz,3,none⟩ c3).setCell ⟨bz,4,none⟩ c4).setCell ⟨bz,5,none⟩ c5).setCell ⟨bz,6,none⟩ c6).setCell ⟨bz,7,none⟩ c7) w.heap.size va vt x.f4 x.f5∧PAt g tl ts en n w0 ((((((((w1.setCell ⟨bz,0,none⟩ c0).setCell ⟨bz,1,none⟩ c1).setCell ⟨bz,2,none⟩ c2).setCell ⟨bz,3,none⟩ c3).setCell ⟨bz,4,none⟩ c4).setCell ⟨bz,5,none⟩ c5).setCell ⟨bz,6,none⟩ c6).setCell ⟨bz,7,none⟩ c7)∧KeepBut w ((((((((w1.setCell ⟨bz,0,none⟩ c0).setCell ⟨bz,1,none⟩ c1).setCell ⟨bz,2,none⟩ c2).setCell ⟨bz,3,none⟩ c3).setCell ⟨bz,4,none⟩ c4).setCell ⟨bz,5,none⟩ c5).setCell ⟨bz,6,none⟩ c6).setCell ⟨bz,7,none⟩ c7) g none:=by
  obtain ⟨z0,t0,p0,k0⟩:=two_setz h h.zero h.x.two h.x.p h.keep 0 c0
  obtain ⟨z1,t1,p1,k1⟩:=two_setz h z0 t0 p0 k0 1 c1
  obtain ⟨z2,t2,p2,k2⟩:=two_setz h z1 t1 p1 k1 2 c2
  obtain ⟨z3,t3,p3,k3⟩:=two_setz h z2 t2 p2 k2 3 c3
  obtain ⟨z4,t4,p4,k4⟩:=two_setz h z3 t3 p3 k3 4 c4
  obtain ⟨z5,t5,p5,k5⟩:=two_setz h z4 t4 p4 k4 5 c5
  obtain ⟨z6,t6,p6,k6⟩:=two_setz h z5 t5 p5 k5 6 c6
  obtain ⟨z7,t7,p7,k7⟩:=two_setz h z6 t6 p6 k6 7 c7
  refine ⟨z7.trans ?_,t7,p7,k7⟩
  simp only [qA,qB,qC]
end
theorem makes_nil_c (o1 x0 o2 at0:Int) (W:World):Calls Try.prog 40 #[.agg #[.int .i64 o1,.int .i64 x0,.int .i64 0,.int .i64 o2,.slice none 0 0,.slice none 0 0,.string noB,.int .i64 at0]] W fun e w'=>e=.returned (.int .i64 (makesI o1 o2))∧Below W.heap.size W w':=
  ops_Makes.calls o1 x0 0 o2 none 0 [] none 0 [] noB at0 _ W (Kd.C_nil _ _) (by simp) (Kd.C_nil _ _) (by simp) (makes_c o1 x0 0 o2 [] [] noB at0).1
theorem findW_none:opOfW (pk0 [])=(0,0):=by decide+kernel
theorem instr_calls (g:Nat) (tl ts:List Tk) (en n:Int) (w0 w:World) (h:PAt g tl ts en n w0 w):
    Calls Try.prog 95 #[.pointer (some ⟨g,0,none⟩)] w (PEnd (instrP en ts) g w0 w fun r e w'=>(∃ v4 v5,e=.returned (.agg (iObj r.1 v4 v5))∧TwoR w' w.heap.size v4 v5 r.1.f4 r.1.f5)∧PAt g tl r.2 en n w0 w'):=by
  have hu39:=Try.underlying39
  obtain ⟨r,hr⟩:∃ r,instrP en ts=r:=⟨_,rfl⟩
  rw [hr]
  unfold instrP at hr
  obtain ⟨I,hI⟩:∃ I,idP en ts=I:=⟨_,rfl⟩
  rw [hI] at hr
  have HR:=aM hr
  have HI:=aM hI
  have HP:=aM h
  clear hr hI h
  go_enter Try.func95,Try.ntmps95
  have hz:=blk_new w (.cells #[.int .i64 0,.int .i64 0,.int .i64 0,.int .i64 0,.slice none 0 0,.slice none 0 0,.string ⟨#[]⟩,.int .i64 0] 39)
  have hb0:=below_alloc (Below.refl w.heap.size w) (.cells #[.int .i64 0,.int .i64 0,.int .i64 0,.int .i64 0,.slice none 0 0,.slice none 0 0,.string ⟨#[]⟩,.int .i64 0] 39)
  have HP1:=aM (HP.out.below hb0)
  have HK1:=aM (KeepBut.of_below hb0 g none)
  clear hb0
  go_upto_region 1 with (fail)
  generalize w.alloc (.cells #[.int .i64 0,.int .i64 0,.int .i64 0,.int .i64 0,.slice none 0 0,.slice none 0 0,.string ⟨#[]⟩,.int .i64 0] 39)=W0 at hz HP1 HK1 ⊢
  have HZ0:=aM hz
  clear hz
  go_wp2_with fail
  refine (here_calls HP1.out).mono ?_
  rintro e w1 ⟨rfl,hp_,hk_⟩
  have hz:=hk_.blk HZ0.out (by have:=HP.out.lt;omega) (by simp)
  have hx:=blk_new w1 (.cells (iObj (⟨0,-1,0,0,[],[],noB,hereP en ts⟩:SI) (.slice none 0 0) (.slice none 0 0)) 39)
  have hb1:=below_alloc (Below.refl w1.heap.size w1) (.cells (iObj (⟨0,-1,0,0,[],[],noB,hereP en ts⟩:SI) (.slice none 0 0) (.slice none 0 0)) 39)
  have HX:=aM (show JPAt g w.heap.size w1.heap.size tl ts (⟨0,-1,0,0,[],[],noB,hereP en ts⟩:SI) (.slice none 0 0) (.slice none 0 0) en n w0 w (w1.alloc (.cells (iObj (⟨0,-1,0,0,[],[],noB,hereP en ts⟩:SI) (.slice none 0 0) (.slice none 0 0)) 39)) from
    ⟨⟨hp_.below hb1,keep_weak (HK1.out.trans (hk_.trans (KeepBut.of_below hb1 g none) (.inl rfl)) (.inl rfl)),HP.out.b.size,hp_.b.size,hx,TwoR.nil _ _⟩,blk_below hz hb1,HP.out.lt,Nat.le_refl _,blk_lt hz⟩)
  clear hp_ hk_ hz hx hb1 HP1 HK1 HZ0
  simp only [iObj,noB] at HX
  go_upto_region 2 with (fail)
  generalize w1.alloc (.cells _ 39)=W1 at HX ⊢
  generalize w1.heap.size=bx_ at HX ⊢
  go_wp2_with fail
  refine (peek1_calls HX.out.x.p).mono ?_
  rintro e w2 ⟨rfl,hp_,hk_⟩
  have HX1:=aM (HX.out.call hp_ hk_)
  clear hp_ hk_ HX
  go_upto_if 10 with (fail)
  (try simp only [Act.put,qA,qB,qC])
  go_cut [] (fun wc=>∃ (i:Int) (us:List Tk),Aside0 (I=.ok (i,us))∧Aside0 (JPAt g w.heap.size bx_ tl us (⟨0,i,0,0,[],[],noB,hereP en ts⟩:SI) (.slice none 0 0) (.slice none 0 0) en n w0 w wc))
  case first=>
    have hI:=HI.out
    unfold idP at hI
    by_cases c1:(pk1 ts).toList=([61]:List UInt8)
    · rw [if_pos c1] at hI
      have d1:((pk1 ts).toList==([61]:List UInt8))=true:=beq_iff_eq.mpr c1
      rw [d1]
      have HI:=aM hI
      have HN1:=aM (show 2≤ts.length from by
        match ts,c1 with
        | [],c=>exact absurd c (by rw [show (pk1 []).toList=[] from ByteArray.toList_empty];simp)
        | [t],c=>exact absurd c (by rw [show (pk1 [t]).toList=[] from ByteArray.toList_empty];simp)
        | t::u::l,_=>simp)
      clear c1 hI
      go_wp2_with fail
      refine (value_calls HX1.out.x.p).mono ?_
      rintro e w3 ⟨⟨hb_,hk_⟩,h_⟩
      have hI:=HI.out
      rcases hv:valueP en ts with q | ⟨v,us⟩
      · rw [hv] at h_ hI
        obtain rfl:=h_
        simp only [bind_err] at hI
        subst hI
        have hr:=HR.out
        simp only [bind_err] at hr
        obtain rfl:=hr
        have HZ:=aM (HX1.out.bad hb_ hk_)
        clear hb_ hk_ hv
        go_wp2
        exact ⟨rfl,HZ.out,rfl⟩
      have hvo:=indexP_ok hv
      rw [hv] at h_ hI
      obtain ⟨rfl,hp_⟩:=h_
      simp only [bind_ok] at hI
      have HI:=aM hI
      have HX2:=aM (HX1.out.call hp_ hk_)
      have HNE:=aM (show us≠[] from fun e=>by have h1:=hvo.2;rw [e] at h1;simp at h1;have:=HN1.out;omega)
      clear hb_ hk_ hp_ hv hvo hI
      have c1_:=HX2.out.at1 1
      have f1_:=blk_frozen HX2.out.x.box 1
      simp only [iObj] at c1_
      have HX3:=aM (HX2.out.put (⟨0,v,0,0,[],[],noB,hereP en ts⟩:SI) 1 (.int .i64 v) rfl rfl rfl)
      go_upto_region 4 with (fail)
      generalize w3.setCell ⟨bx_,1,none⟩ (.int .i64 v)=W3 at HX3 ⊢
      clear c1_ f1_ HX2
      obtain ⟨a_,hc1,hf1,hst_⟩:=HX3.out.x.p.where_
      have HX4:=aM (HX3.out.step (hst_ HNE.out))
      clear hst_
      go_wp2_with fail
      go_meet
      exact ⟨_,_,⟨HI.out.symm⟩,HX4⟩
    · rw [if_neg c1] at hI
      have d1:((pk1 ts).toList==([61]:List UInt8))=false:=beq_eq_false_iff_ne.mpr c1
      rw [d1]
      have HI:=aM hI
      clear c1 hI
      go_wp2_with fail
      go_meet
      exact ⟨_,_,⟨HI.out.symm⟩,HX1⟩
  case rest=>
    clear HX1 HI
    obtain ⟨i,us,HI,HX⟩:=hcut
    have hr:=HR.out
    rw [HI.out,bind_ok] at hr
    simp only at hr
    obtain ⟨o,ho⟩:∃ o,opOfW (pk0 us)=o:=⟨_,rfl⟩
    rw [ho] at hr
    obtain ⟨o1,o2⟩:=o
    simp only at hr
    have HR:=aM hr
    have HO:=aM (show ops_Find.f (pk0 us)=some (o1,o2) from congrArg some ho)
    have HNE:=aM (show o1≠0→us≠[] from fun hne e=>hne (by rw [e,findW_none] at ho;exact (congrArg Prod.fst ho).symm))
    clear hr ho HI
    go_wp2_with fail
    refine (peek0_calls HX.out.x.p).mono ?_
    rintro e w4 ⟨rfl,hp_,hk_⟩
    have HX1:=aM (HX.out.call hp_ hk_)
    clear hp_ hk_ HX
    go_wp2_with fail
    refine (ops_Find.calls (pk0 us) o1 o2 _ HO.out).mono ?_
    rintro e w5 ⟨rfl,hb_⟩
    have HX2:=aM (HX1.out.below hb_)
    clear hb_ HX1
    have c0_:=HX2.out.at1 0
    have f0_:=blk_frozen HX2.out.x.box 0
    have c3_:=HX2.out.at1 3
    have f3_:=blk_frozen HX2.out.x.box 3
    simp only [iObj] at c0_ c3_
    have HX3:=aM ((HX2.out.put (⟨o1,i,0,0,[],[],noB,hereP en ts⟩:SI) 0 (.int .i64 o1) rfl rfl rfl).put (⟨o1,i,0,o2,[],[],noB,hereP en ts⟩:SI) 3 (.int .i64 o2) rfl rfl rfl)
    go_upto_region 7 with (fail)
    generalize (w5.setCell ⟨bx_,0,none⟩ (.int .i64 o1)).setCell ⟨bx_,3,none⟩ (.int .i64 o2)=W4 at HX3 ⊢
    clear c0_ f0_ c3_ f3_ HX2
    have c0_:=HX3.out.at1 0
    simp only [iObj] at c0_
    have hr:=HR.out
    by_cases ko:o1=0
    · rw [if_pos ko] at hr
      obtain rfl:=hr
      have go_:(o1==0)=true:=beq_iff_eq.mpr ko
      clear ko HR
      go_wp2_with fail
      refine (fail_calls (c:=2) HX3.out.x.p).mono ?_
      rintro e w9 ⟨rfl,hb_,hk_⟩
      have HZ:=aM (HX3.out.bad hb_ hk_)
      clear hb_ hk_
      go_wp2
      exact ⟨rfl,HZ.out,rfl⟩
    rw [if_neg ko] at hr
    have HNE:=aM (HNE.out ko)
    have go_:(o1==0)=false:=beq_eq_false_iff_ne.mpr ko
    have HR:=aM hr
    clear ko hr
    go_upto_region 9 with (fail)
    clear c0_ go_
    have HXd:=aM (HX3.out.below (below_drew1 (Below.refl _ _)))
    clear HX3
    refine start_ (n:=7) (S:=fun w'=>w'.cell? ⟨bx_,0,none⟩=some (.int .i64 o1)∧w'.cell? ⟨bx_,1,none⟩=some (.int .i64 i)∧w'.cell? ⟨bx_,2,none⟩=some (.int .i64 0)∧w'.cell? ⟨bx_,3,none⟩=some (.int .i64 o2)∧w'.cell? ⟨bx_,4,none⟩=some (.slice none 0 0)∧w'.cell? ⟨bx_,5,none⟩=some (.slice none 0 0)∧w'.cell? ⟨bx_,6,none⟩=some (.string noB)∧w'.cell? ⟨bx_,7,none⟩=some (.int .i64 (hereP en ts))) (ds:=[]) #[false,false,false,false,false,false,false] (by kernel_rfl) rfl rfl ⟨(HXd.out.at1 0),(HXd.out.at1 1),(HXd.out.at1 2),(HXd.out.at1 3),(HXd.out.at1 4),(HXd.out.at1 5),(HXd.out.at1 6),(HXd.out.at1 7)⟩ (fun hHeld=>?_)
    refine pure_ (i:=3) (N:=some 38) (v:=?_) (a':=?_) #[false,false,false,true,false,false,false] rfl rfl (by kernel_rfl) (fun _ _ _ h=>h) (Or.inl ⟨by rfl,?_⟩) ?_ ?_
    rotate_left
    · intro w'
      go_simp
      with_reducible rfl
    rotate_left
    · simp only [Act.put,qA,qB,qC,i64_w,i32_w]
      rfl
    refine take_ (i:=0) (N:=some 35) (v:=?_) (a':=?_) #[true,false,false,true,false,false,false] rfl rfl (by kernel_rfl) (fun _ _ _ h=>h) (Or.inl ⟨by rfl,?_⟩) hHeld ?_ ?_
    rotate_left
    · rintro w' ⟨s0,s1,s2,s3,s4,s5,s6,s7⟩
      go_simp
      with_reducible rfl
    rotate_left
    · simp only [Act.put,qA,qB,qC,i64_w,i32_w]
      rfl
    refine take_ (i:=4) (N:=some 39) (v:=?_) (a':=?_) #[true,false,false,true,true,false,false] rfl rfl (by kernel_rfl) (fun _ _ _ h=>h) (Or.inl ⟨by rfl,?_⟩) hHeld ?_ ?_
    rotate_left
    · rintro w' ⟨s0,s1,s2,s3,s4,s5,s6,s7⟩
      go_simp
      with_reducible rfl
    rotate_left
    · simp only [Act.put,qA,qB,qC,i64_w,i32_w]
      rfl
    refine pure_ (i:=5) (N:=some 40) (v:=?_) (a':=?_) #[true,false,false,true,true,true,false] rfl rfl (by kernel_rfl) (fun _ _ _ h=>h) (Or.inl ⟨by rfl,?_⟩) ?_ ?_
    rotate_left
    · intro w'
      go_simp
      with_reducible rfl
    rotate_left
    · simp only [Act.put,qA,qB,qC,i64_w,i32_w]
      rfl
    refine one_ (i:=1) (N:=some 36) #[true,true,false,true,true,true,false] rfl rfl (by kernel_rfl) (by decide) (fun K hK=>?_)
    refine goes_ Try.func40 (by kernel_rfl) rfl #[.agg #[.int .i64 o1,.int .i64 i,.int .i64 0,.int .i64 o2,.slice none 0 0,.slice none 0 0,.string noB,.int .i64 (hereP en ts)]] (by rfl) rfl rfl (by simp only [List.map_toArray,List.map_cons,List.map_nil];rfl) ?_
    with_reducible refine (makes_nil_c o1 i o2 (hereP en ts) _).mono ?_
    rintro e w6 ⟨rfl,hb_⟩
    refine ⟨_,rfl,?_⟩
    have HX4:=aM (HXd.out.below hb_)
    clear hb_
    refine hK.out _ _ ⟨(HX4.out.at1 0),(HX4.out.at1 1),(HX4.out.at1 2),(HX4.out.at1 3),(HX4.out.at1 4),(HX4.out.at1 5),(HX4.out.at1 6),(HX4.out.at1 7)⟩ (fun hHeld=>?_)
    clear hK K
    refine norm_ (a':=?_) ?_ ?_
    rotate_left
    · show Act.put _ (some 36) _=_
      simp only [Act.put,qA,qB,qC,i64_w,i32_w]
      rfl
    refine pure_ (i:=2) (N:=some 37) (v:=?_) (a':=?_) #[true,true,true,true,true,true,false] rfl rfl (by kernel_rfl) (fun _ _ _ h=>h) (Or.inl ⟨by rfl,?_⟩) ?_ ?_
    rotate_left
    · intro w'
      go_simp
      with_reducible rfl
    rotate_left
    · simp only [Act.put,qA,qB,qC,i64_w,i32_w]
      rfl
    refine pure_ (i:=6) (N:=some 41) (v:=?_) (a':=?_) #[true,true,true,true,true,true,true] rfl rfl (by kernel_rfl) (fun _ _ _ h=>h) (Or.inl ⟨by rfl,?_⟩) ?_ ?_
    rotate_left
    · intro w'
      go_simp
      with_reducible rfl
    rotate_left
    · simp only [Act.put,qA,qB,qC,i64_w,i32_w]
      rfl
    refine done_ (by kernel_rfl) ?_
    clear hHeld HXd
    have hr:=HR.out
    by_cases km:((makesI o1 o2 !=0) !=decide (0≤i))=true
    · rw [if_pos km] at hr
      obtain rfl:=hr
      clear HR
      go_upto_if 41 with (fail)
      have km3:(!((makesI o1 o2 !=0)==decide (0≤i)))=true:=km
      rw [km3]
      go_wp2_with fail
      refine (fail_calls (c:=8) HX4.out.x.p).mono ?_
      rintro e w9 ⟨rfl,hb_,hk_⟩
      have HZ:=aM (HX4.out.bad hb_ hk_)
      clear hb_ hk_
      go_wp2
      exact ⟨rfl,HZ.out,rfl⟩
    rw [if_neg km] at hr
    have km2:(!((makesI o1 o2 !=0)==decide (0≤i)))=false:=Bool.eq_false_iff.mpr km
    have HR:=aM hr
    clear km hr
    go_upto_if 41 with (fail)
    rw [km2]
    go_upto_region 11 with (fail)
    clear km2
    obtain ⟨a_,hc1,hf1,hst_⟩:=HX4.out.x.p.where_
    have HX5:=aM (HX4.out.step (hst_ HNE.out))
    clear hst_
    go_upto_region 12 with (fail)
    generalize w6.setCell ⟨g,1,none⟩ (.int .i64 (wrap64 (a_+1)))=W5 at HX5 ⊢
    clear hc1 hf1 HX4
    go_wp2_with fail
    refine (oper_calls g bx_ o1 i o2 (hereP en ts) tl us.tail en n w0 W5 HX5.out.x.p HX5.out.x.box HX5.out.x.bb).mono ?_
    rintro e w7 ⟨⟨hb_,hk_⟩,h_⟩
    have hr:=HR.out
    rcases hv:operP en o1 us.tail with q | ⟨y,us2⟩
    · rw [hv] at h_ hr
      obtain rfl:=h_
      simp only [bind_err] at hr
      obtain rfl:=hr
      have HZ:=aM (HX5.out.bad2 hb_ hk_)
      clear hb_ hk_ hv
      go_wp2
      exact ⟨rfl,HZ.out,rfl⟩
    rw [hv] at h_ hr
    obtain ⟨rfl,va,vt,hx_⟩:=h_
    simp only [bind_ok] at hr
    obtain rfl:=hr
    have HX6:=aM (HX5.out.oper hx_)
    clear hb_ hk_ hv hx_ HX5 HR
    obtain ⟨Aa,ca,At,ct,ea,et⟩:=HX6.out.x.sl
    simp only at ea et
    subst ea
    subst et
    simp only at HX6
    have c_0:=HX6.out.at1 0
    have f_0:=blk_frozen HX6.out.x.box 0
    have d_0:=blk_cell HX6.out.zero 0
    have e_0:=blk_frozen HX6.out.zero 0
    have c_1:=HX6.out.at1 1
    have f_1:=blk_frozen HX6.out.x.box 1
    have d_1:=blk_cell HX6.out.zero 1
    have e_1:=blk_frozen HX6.out.zero 1
    have c_2:=HX6.out.at1 2
    have f_2:=blk_frozen HX6.out.x.box 2
    have d_2:=blk_cell HX6.out.zero 2
    have e_2:=blk_frozen HX6.out.zero 2
    have c_3:=HX6.out.at1 3
    have f_3:=blk_frozen HX6.out.x.box 3
    have d_3:=blk_cell HX6.out.zero 3
    have e_3:=blk_frozen HX6.out.zero 3
    have c_4:=HX6.out.at1 4
    have f_4:=blk_frozen HX6.out.x.box 4
    have d_4:=blk_cell HX6.out.zero 4
    have e_4:=blk_frozen HX6.out.zero 4
    have c_5:=HX6.out.at1 5
    have f_5:=blk_frozen HX6.out.x.box 5
    have d_5:=blk_cell HX6.out.zero 5
    have e_5:=blk_frozen HX6.out.zero 5
    have c_6:=HX6.out.at1 6
    have f_6:=blk_frozen HX6.out.x.box 6
    have d_6:=blk_cell HX6.out.zero 6
    have e_6:=blk_frozen HX6.out.zero 6
    have c_7:=HX6.out.at1 7
    have f_7:=blk_frozen HX6.out.x.box 7
    have d_7:=blk_cell HX6.out.zero 7
    have e_7:=blk_frozen HX6.out.zero 7
    have HE:=aM (HX6.out.fin (.int .i64 o1) (.int .i64 i) (.int .i64 y.n) (.int .i64 o2) (.slice Aa y.xa.length ca) (.slice At y.xt.length ct) (.string y.nm) (.int .i64 (hereP en ts)))
    have hne:w.heap.size≠bx_:=by have:=HX6.out.lt;omega
    have hne':bx_≠w.heap.size:=by have:=HX6.out.lt;omega
    simp only [iObj] at c_0 c_1 c_2 c_3 c_4 c_5 c_6 c_7
    go_wp2
    (try simp only [Exit.inBlock,Exit.then])
    refine bodyPost_ret (results_cell_row rfl _ _ w.heap.size 39 #[.int .i64 o1,.int .i64 i,.int .i64 y.n,.int .i64 o2,.slice Aa y.xa.length ca,.slice At y.xt.length ct,.string y.nm,.int .i64 (hereP en ts)] (0,0) _ rfl HE.out.1 Try.underlying39 rfl (by kernel_rfl)) rfl ?_
    exact ⟨⟨HE.out.2.2.1.b,HE.out.2.2.2⟩,⟨_,_,rfl,HE.out.2.1⟩,HE.out.2.2.1⟩
end Go.Proofs.Ytkjdblbgmomieaa.PSh
end
-- from YtkjdblbgmomieaaPLen
section
namespace Go.Proofs.Ytkjdblbgmomieaa.PSh
open Go.RowKit Go.Proofs.YtkjdblbgmomieaaW.PrintWords Go.Proofs.YtkjdblbgmomieaaW.PrintLast Go.Proofs.YtkjdblbgmomieaaW.PrintMore Go.Proofs.Ytkjdblbgmomieaa.Str Go.Proofs.Ytkjdblbgmomieaa.Dig Go.Proofs.Ytkjdblbgmomieaa.DigLaw
set_option linter.unusedVariables false
set_option linter.unusedSimpArgs false
theorem bind_inv {α β:Type} {x:PE α} {f:α→PE β} {b:β} (h:Except.bind x f=.ok b):∃ a,x=.ok a∧f a=.ok b:=by
  cases x with
  | error q=>cases h
  | ok a=>exact ⟨a,rfl,h⟩
theorem tail_le (ts:List Tk):ts.tail.length≤ts.length:=by cases ts<;>simp
theorem wantP_ok {en:Int} {s:List UInt8} {ts us:List Tk} (h:wantP en s ts=.ok us):(pk0 ts).toList=s∧us=ts.tail:=by
  unfold wantP failP at h
  split at h
  · next c=>
    injection h with h
    exact ⟨c,h.symm⟩
  · cases h
theorem nameP_ok {en:Int} {ts us:List Tk} {m:ByteArray} (h:nameP en ts=.ok (m,us)):nameL m.data.toList=true∧m=pk0 ts∧us=ts.tail:=by
  unfold nameP failP at h
  split at h
  · next c=>
    injection h with h
    injection h with h1 h2
    subst h1
    exact ⟨c,rfl,h2.symm⟩
  · cases h
theorem phiP_len (en:Int):∀ (m:Nat) (xa xt:List Int) (ts:List Tk) (q:List Int × List Int × List Tk),phiP en m xa xt ts=.ok q→q.2.2.length≤ts.length
  | 0,_,_,_,_,h=>by cases h
  | m+1,xa,xt,ts,q,h=>by
    simp only [phiP] at h
    split at h
    · obtain ⟨⟨b,t1⟩,hb,h⟩:=bind_inv h
      obtain ⟨⟨v,t2⟩,hv,h⟩:=bind_inv h
      have h1:=(indexP_ok hb).2
      have h2:=(indexP_ok hv).2
      have h3:=phiP_len en m _ _ _ _ h
      simp only at h1 h2 h3
      omega
    · injection h with h
      subst h
      exact Nat.le_refl _
theorem argsP_len (en:Int):∀ (m:Nat) (xa:List Int) (ts:List Tk) (q:List Int × List Tk),argsP en m xa ts=.ok q→q.2.length≤ts.length
  | 0,_,_,_,h=>by cases h
  | m+1,xa,ts,q,h=>by
    simp only [argsP] at h
    split at h
    · obtain ⟨⟨v,t2⟩,hv,h⟩:=bind_inv h
      have h2:=(indexP_ok hv).2
      have h3:=argsP_len en m _ _ _ h
      simp only at h3
      omega
    · injection h with h
      subst h
      exact Nat.le_refl _
theorem takeP_len (en:Int):∀ (m:Nat) (xa:List Int) (ts:List Tk) (q:List Int × List Tk),takeP en m xa ts=.ok q→q.2.length≤ts.length
  | 0,_,_,_,h=>by
    simp only [takeP] at h
    injection h with h
    subst h
    exact Nat.le_refl _
  | m+1,xa,ts,q,h=>by
    simp only [takeP] at h
    obtain ⟨⟨v,t2⟩,hv,h⟩:=bind_inv h
    have h2:=(indexP_ok hv).2
    have h3:=takeP_len en m _ _ _ h
    simp only at h3
    omega
theorem number_le {en low high:Int} {ts:List Tk} {q:Int × List Tk} (h:numberP en low high ts=.ok q):q.2.length≤ts.length:=by
  obtain ⟨v,us⟩:=q
  rw [numberP_ok h]
  exact tail_le ts
theorem index_le {en sign most c:Int} {ts:List Tk} {q:Int × List Tk} (h:indexP en sign most c ts=.ok q):q.2.length≤ts.length:=by
  obtain ⟨v,us⟩:=q
  have:=(indexP_ok h).2
  simp only
  omega
theorem operP_len {en op:Int} {ts:List Tk} {q:OpR × List Tk} (h:operP en op ts=.ok q):q.2.length≤ts.length:=by
  unfold operP at h
  by_cases k0:op=1
  · rw [if_pos k0] at h
    obtain ⟨a,ha,h⟩:=bind_inv h
    injection h with h
    subst h
    exact number_le ha
  rw [if_neg k0] at h
  by_cases k1:op=10
  · rw [if_pos k1] at h
    split at h
    · injection h with h
      subst h
      exact tail_le ts
    · cases h
  rw [if_neg k1] at h
  by_cases k2:op=11∨op=12∨op=15
  · rw [if_pos k2] at h
    obtain ⟨a,ha,h⟩:=bind_inv h
    obtain ⟨b,hb,h⟩:=bind_inv h
    injection h with h
    subst h
    exact Nat.le_trans (number_le hb) (index_le ha)
  rw [if_neg k2] at h
  by_cases k3:op=13∨op=14
  · rw [if_pos k3] at h
    obtain ⟨a,ha,h⟩:=bind_inv h
    obtain ⟨b,hb,h⟩:=bind_inv h
    obtain ⟨c,hc,h⟩:=bind_inv h
    injection h with h
    subst h
    exact Nat.le_trans (index_le hc) (Nat.le_trans (number_le hb) (index_le ha))
  rw [if_neg k3] at h
  by_cases k4:op=20
  · rw [if_pos k4] at h
    obtain ⟨a,ha,h⟩:=bind_inv h
    injection h with h
    subst h
    exact phiP_len en _ _ _ _ _ ha
  rw [if_neg k4] at h
  by_cases k5:op=21
  · rw [if_pos k5] at h
    unfold callP at h
    obtain ⟨a,ha,h⟩:=bind_inv h
    obtain ⟨⟨b1,b2⟩,hb,h⟩:=bind_inv h
    obtain ⟨c,hc,h⟩:=bind_inv h
    injection h with h
    subst h
    have h1:=argsP_len en _ _ _ _ hc
    have h2:=(nameP_ok hb).2.2
    have h3:=tail_le a.2
    have h4:a.2.length≤ts.length:=by
      split at ha
      · exact index_le ha
      · injection ha with ha
        subst ha
        exact Nat.le_refl _
    simp only at h1 ⊢
    rw [h2] at h1
    omega
  rw [if_neg k5] at h
  by_cases k6:op=23
  · rw [if_pos k6] at h
    obtain ⟨a,ha,h⟩:=bind_inv h
    injection h with h
    subst h
    exact number_le ha
  rw [if_neg k6] at h
  by_cases k7:op=24
  · rw [if_pos k7] at h
    obtain ⟨a,ha,h⟩:=bind_inv h
    obtain ⟨b,hb,h⟩:=bind_inv h
    injection h with h
    subst h
    exact Nat.le_trans (number_le hb) (index_le ha)
  rw [if_neg k7] at h
  by_cases k8:op=26
  · rw [if_pos k8] at h
    obtain ⟨a,ha,h⟩:=bind_inv h
    injection h with h
    subst h
    exact index_le ha
  rw [if_neg k8] at h
  by_cases k9:op=27
  · rw [if_pos k9] at h
    obtain ⟨a,ha,h⟩:=bind_inv h
    obtain ⟨b,hb,h⟩:=bind_inv h
    obtain ⟨c,hc,h⟩:=bind_inv h
    injection h with h
    subst h
    exact Nat.le_trans (index_le hc) (Nat.le_trans (index_le hb) (index_le ha))
  rw [if_neg k9] at h
  by_cases k10:op=28
  · rw [if_pos k10] at h
    split at h
    · obtain ⟨a,ha,h⟩:=bind_inv h
      injection h with h
      subst h
      exact index_le ha
    · injection h with h
      subst h
      exact Nat.le_refl _
  rw [if_neg k10] at h
  by_cases k11:op=29
  · rw [if_pos k11] at h
    obtain ⟨a,ha,h⟩:=bind_inv h
    injection h with h
    subst h
    exact number_le ha
  · rw [if_neg k11] at h
    obtain ⟨a,ha,h⟩:=bind_inv h
    injection h with h
    subst h
    exact takeP_len en _ _ _ _ ha
theorem idP_len {en:Int} {ts:List Tk} {q:Int × List Tk} (h:idP en ts=.ok q):q.2.length≤ts.length:=by
  unfold idP at h
  split at h
  · obtain ⟨a,ha,h⟩:=bind_inv h
    injection h with h
    subst h
    exact Nat.le_trans (tail_le _) (index_le ha)
  · injection h with h
    subst h
    exact Nat.le_refl _
theorem instrP_len {en:Int} {ts:List Tk} {q:SI × List Tk} (h:instrP en ts=.ok q):q.2.length<ts.length:=by
  unfold instrP at h
  obtain ⟨i,hi,h⟩:=bind_inv h
  split at h
  · cases h
  next c=>
  split at h
  · cases h
  obtain ⟨r,hr,h⟩:=bind_inv h
  injection h with h
  subst h
  have h1:=idP_len hi
  have h2:=operP_len hr
  have h3:i.2≠[]:=fun e=>c (by rw [e,findW_none])
  have h4:=take_len h3
  simp only
  omega
theorem codeP_len (en:Int):∀ (m:Nat) (acc:List SI) (n:Int) (ts:List Tk) (q:List SI × Int × List Tk),codeP en m acc n ts=.ok q→0≤n→n≤4096→q.2.2.length≤ts.length∧0≤q.2.1∧q.2.1≤4096
  | 0,_,_,_,_,h,_,_=>by cases h
  | m+1,acc,n,ts,q,h,h0,h1=>by
    simp only [codeP] at h
    split at h
    · split at h
      · cases h
      next c=>
      obtain ⟨x,hx,h⟩:=bind_inv h
      have h2:=instrP_len hx
      have h3:=codeP_len en m _ _ _ _ h (by omega) (by omega)
      omega
    · injection h with h
      subst h
      exact ⟨Nat.le_refl _,h0,h1⟩
theorem blockP_len {en k n:Int} {ts:List Tk} {q:List SI × Int × List Tk} (h:blockP en k n ts=.ok q) (h0:0≤n) (h1:n≤4096):q.2.2.length<ts.length∧0≤q.2.1∧q.2.1≤4096:=by
  unfold blockP at h
  split at h
  · cases h
  split at h
  · next c=>
    obtain ⟨us,hu,h⟩:=bind_inv h
    have h2:=(wantP_ok hu)
    have h3:=codeP_len en _ _ _ _ _ h h0 h1
    have h5:∀ xs:List Tk,(pk0 xs).toList≠[]→xs.tail.length+1=xs.length:=fun xs hx=>take_len (toL_ne hx)
    have h6:=h5 ts.tail (by rw [h2.1];simp)
    have h7:=tail_le ts
    rw [h2.2] at h3
    omega
  · cases h
theorem blocksP_len (en:Int):∀ (m:Nat) (bs:List (List SI)) (n:Int) (ts:List Tk) (q:List (List SI) × Int × List Tk),blocksP en m bs n ts=.ok q→0≤n→n≤4096→q.2.2.length≤ts.length∧0≤q.2.1∧q.2.1≤4096
  | 0,_,_,_,_,h,_,_=>by cases h
  | m+1,bs,n,ts,q,h,h0,h1=>by
    simp only [blocksP] at h
    split at h
    · injection h with h
      subst h
      exact ⟨Nat.le_refl _,h0,h1⟩
    · obtain ⟨x,hx,h⟩:=bind_inv h
      have h2:=blockP_len hx h0 h1
      have h3:=blocksP_len en m _ _ _ _ h h2.2.1 h2.2.2
      omega
theorem paramsP_len (en:Int):∀ (m:Nat) (ps:List Int) (ts:List Tk) (q:List Int × List Tk),paramsP en m ps ts=.ok q→q.2.length≤ts.length
  | 0,_,_,_,h=>by cases h
  | m+1,ps,ts,q,h=>by
    simp only [paramsP] at h
    split at h
    · injection h with h
      subst h
      exact Nat.le_refl _
    split at h
    · cases h
    split at h
    · cases h
    have h3:=paramsP_len en m _ _ _ h
    have:=tail_le ts
    omega
theorem headP_len {en:Int} {ts:List Tk} {q:ByteArray × List Int × Int × List Tk} (h:headP en ts=.ok q):q.2.2.2.length<ts.length:=by
  unfold headP at h
  obtain ⟨t1,h1,h⟩:=bind_inv h
  obtain ⟨⟨m1,m2⟩,h2,h⟩:=bind_inv h
  obtain ⟨t2,h3,h⟩:=bind_inv h
  obtain ⟨p,h4,h⟩:=bind_inv h
  obtain ⟨t3,h5,h⟩:=bind_inv h
  split at h
  · cases h
  obtain ⟨t4,h6,h⟩:=bind_inv h
  injection h with h
  subst h
  have e1:=take_len (toL_ne (ts:=ts) (by rw [(wantP_ok h1).1];simp))
  rw [(wantP_ok h1).2,(nameP_ok h2).2.2] at *
  have e4:=paramsP_len en _ _ _ _ h4
  rw [(wantP_ok h3).2] at e4
  have a1:=tail_le ts.tail
  have a2:=tail_le ts.tail.tail
  have a3:=tail_le p.2
  have a5:=tail_le t3
  have a6:=tail_le t3.tail
  rw [(wantP_ok h6).2]
  have e5:=(wantP_ok h5).2
  rw [← e5] at a3
  simp only at e4 ⊢
  omega
theorem funcP_len {en n:Int} {ts:List Tk} {q:SF × Int × List Tk} (h:funcP en n ts=.ok q) (h0:0≤n) (h1:n≤4096):q.2.2.length<ts.length∧0≤q.2.1∧q.2.1≤4096:=by
  unfold funcP at h
  obtain ⟨a,ha,h⟩:=bind_inv h
  obtain ⟨b,hb,h⟩:=bind_inv h
  obtain ⟨u,hu,h⟩:=bind_inv h
  injection h with h
  subst h
  have e1:=headP_len ha
  have e2:=blocksP_len en _ _ _ _ _ hb h0 h1
  have e3:=tail_le b.2.2
  rw [(wantP_ok hu).2]
  simp only
  omega
end Go.Proofs.Ytkjdblbgmomieaa.PSh
end
-- from YtkjdblbgmomieaaHPBlock
section
namespace Go.Proofs.Ytkjdblbgmomieaa.PSh
set_option maxHeartbeats 8000000
set_option maxRecDepth 100000
open Go.RowKit Go.Proofs.YtkjdblbgmomieaaW.PrintWords Go.Proofs.YtkjdblbgmomieaaW.PrintLast Go.Proofs.YtkjdblbgmomieaaW.PrintMore Go.Proofs.Ytkjdblbgmomieaa.Str Go.Proofs.Ytkjdblbgmomieaa.Dig Go.Proofs.Ytkjdblbgmomieaa.DigLaw
set_option linter.unusedVariables false
set_option linter.unusedSimpArgs false
structure BPAt (g:Nat) (tl ts:List Tk) (acc:List SI) (v:Value) (en n:Int) (w0 w w':World):Prop where
  p:PAt g tl ts en n w0 w'
  k:KeepBut w w' g none
  wb:w0.heap.size≤w.heap.size
  gl:g<w.heap.size
  row:Kd.R k39 39 w' w.heap.size (fun _=>True) v acc
theorem row_keep {α:Type} {d:Kd α} {e base t g:Nat} {cells:Array Value} {v:Value} {xs:List α} {w1 w2:World} (hr:d.R e w1 base (fun _=>True) v xs) (hG:w1.heap[g]?=some (.cells cells t (0,0))) (ht:∀ q,q∈e::d.E→q≠t) (hk:KeepBut w1 w2 g none):d.R e w2 base (fun _=>True) v xs:=
  Kd.R_mono (Kd.R_step (Kd.R_types hr hG ht) (fun k ho hlt=>hk.2 k hlt ho.2 (by simp))) (fun _ _=>trivial)
section
variable {g : Nat} {tl ts us : List Tk} {acc : List SI} {v : Value} {en n m : Int} {w0 w w1 w2 : World}
theorem BPAt.call (h:BPAt g tl ts acc v en n w0 w w1) (hp:PAt g tl us en m w0 w2) (hk:KeepBut w1 w2 g none):BPAt g tl us acc v en m w0 w w2:=by
  obtain ⟨cells,hG⟩:=h.p.blk
  exact ⟨hp,h.k.trans hk (.inl rfl),h.wb,h.gl,row_keep h.row hG (by decide) hk⟩
theorem BPAt.below (h:BPAt g tl ts acc v en n w0 w w1) (hb:Below w1.heap.size w1 w2):BPAt g tl ts acc v en n w0 w w2:=h.call (h.p.below hb) (KeepBut.of_below hb g none)
theorem BPAt.app (h:BPAt g tl ts acc v en n w0 w w1) {acc':List SI} {v1:Value} (hr:Kd.R k39 39 w2 w.heap.size (fun _=>True) v1 acc') (hg:w1.grownBy w2 v.ownBlock):BPAt g tl ts acc' v1 en n w0 w w2:=by
  obtain ⟨cells,hG⟩:=h.p.blk
  have ng:some g≠v.ownBlock:=Kd.R_ne h.row hG (by decide)
  exact ⟨h.p.grown hg ng (fun k e=>Nat.le_trans h.wb (Kd.R_base h.row k e)),h.k.trans (KeepBut.of_grown hg g) ((Kd.R_base2 h.row).imp (fun e=>e) (fun e=>e)),h.wb,h.gl,hr⟩
end
theorem L58:(⟨#[58]⟩:ByteArray).toList=[58]:=mk_toList [58]
theorem small_calls (k:Int) (h0:0≤k) (h1:k≤1000000) (w:World):Calls Try.prog 67 #[.int .i64 k] w fun e w'=>e=.returned (.string (mk (digs k)))∧Below w.heap.size w w':=
  digits_Small.calls k _ w (small_c k (by omega) (by omega))
theorem block_calls (g:Nat) (kk:Int) (h0:0≤kk) (tl ts:List Tk) (en n:Int) (hn:0≤n∧n≤4096) (w0 w:World) (h:PAt g tl ts en n w0 w):
    Calls Try.prog 81 #[.pointer (some ⟨g,0,none⟩),.int .i64 kk] w (PEnd (blockP en kk n ts) g w0 w fun r e w'=>(∃ v,e=.returned v∧Kd.R k39 39 w' w.heap.size (fun _=>True) v r.1)∧PAt g tl r.2.2 en r.2.1 w0 w'):=by
  have hu39:=Try.underlying39
  have HX:=aM (show BPAt g tl ts [] (.slice none 0 0) en n w0 w w from ⟨h,KeepBut.refl w g none,h.b.size,h.lt,Kd.R_nil _ _ _ _ _⟩)
  obtain ⟨r,hr⟩:∃ r,blockP en kk n ts=r:=⟨_,rfl⟩
  rw [hr]
  unfold blockP at hr
  clear h
  by_cases c1:kk≥256
  · rw [if_pos c1] at hr
    obtain rfl:=hr
    have d1:decide (256≤kk)=true:=decide_eq_true c1
    clear c1
    go_enter Try.func81,Try.ntmps81
    go_wp2_with fail
    refine (fail_calls (c:=6) HX.out.p).mono ?_
    rintro e w9 ⟨rfl,hb_,hk_⟩
    have HZ:=aM (And.intro hb_ (HX.out.k.trans hk_ (.inl rfl)))
    clear hb_ hk_
    go_wp2
    exact ⟨rfl,HZ.out,rfl⟩
  rw [if_neg c1] at hr
  have d1:decide (256≤kk)=false:=decide_eq_false c1
  have HD:=aM (And.intro h0 (show kk≤1000000 by omega))
  have hdl:=digs_len kk (by omega) (by omega)
  have hsz:1+(mk (digs kk)).size≤9223372036854775807:=by rw [mk_size];omega
  have he:((⟨#[98]⟩:ByteArray)++mk (digs kk))=mk (98::digs kk):=mk_append [98] (digs kk)
  rw [← he] at hr
  have hdn:((⟨#[98]⟩:ByteArray)++mk (digs kk)).toList≠[]:=by rw [he,mk_toList];simp
  have HSM:∀ W:World,Calls Try.prog 67 #[.int .i64 kk] W fun e w'=>e=.returned (.string (mk (digs kk)))∧Below W.heap.size W w':=fun W=>small_calls kk h0 (by omega) W
  generalize mk (digs kk)=d at hr hsz hdn HSM
  have HSM:=aM HSM
  clear c1 h0 hdl he HD
  by_cases c2:(pk0 ts).toList=((⟨#[98]⟩:ByteArray)++d).toList
  rotate_left
  · rw [if_neg c2] at hr
    obtain rfl:=hr
    have d2:(!((pk0 ts).toList==((⟨#[98]⟩:ByteArray)++d).toList))=true:=bne_iff_ne.mpr c2
    have d3:((pk0 ts).toList !=((⟨#[98]⟩:ByteArray)++d).toList)=true:=d2
    clear c2
    go_enter Try.func81,Try.ntmps81
    go_wp2_with fail
    refine (peek0_calls HX.out.p).mono ?_
    rintro e w1 ⟨rfl,hp_,hk_⟩
    have HX1:=aM (HX.out.call hp_ hk_)
    clear hp_ hk_
    go_wp2_with fail
    refine (HSM.out _).mono ?_
    rintro e w2 ⟨rfl,hb_⟩
    have HX2:=aM (HX1.out.below hb_)
    clear hb_
    go_wp2_with fail
    refine (fail_calls (c:=7) HX2.out.p).mono ?_
    rintro e w9 ⟨rfl,hb_,hk_⟩
    have HZ:=aM (And.intro hb_ (HX2.out.k.trans hk_ (.inl rfl)))
    clear hb_ hk_
    go_wp2
    exact ⟨rfl,HZ.out,rfl⟩
  rw [if_pos c2] at hr
  have HR:=aM hr
  have HNE:=aM (toL_ne (c2 ▸ hdn))
  have d2:(!((pk0 ts).toList==((⟨#[98]⟩:ByteArray)++d).toList))=false:=bne_eq_false_iff_eq.mpr c2
  have d3:((pk0 ts).toList !=((⟨#[98]⟩:ByteArray)++d).toList)=false:=d2
  clear c2 hr
  go_enter Try.func81,Try.ntmps81
  go_wp2_with fail
  refine (peek0_calls HX.out.p).mono ?_
  rintro e w1 ⟨rfl,hp_,hk_⟩
  have HX1:=aM (HX.out.call hp_ hk_)
  clear hp_ hk_
  go_wp2_with fail
  refine (HSM.out _).mono ?_
  rintro e w2 ⟨rfl,hb_⟩
  have HX2:=aM (HX1.out.below hb_)
  clear hb_
  go_upto_region 5 with (fail)
  clear d1 d2 d3 hsz
  obtain ⟨a_,hc1,hf1,hst_⟩:=HX2.out.p.where_
  have HX3:=aM (HX2.out.call (hst_ HNE.out) ((KeepBut.refl _ g none).set_ 1 _))
  clear hst_
  go_wp2_with fail
  refine ((show Calls _ _ _ _ (PEnd (wantP en [58] ts.tail) g w0 _ _) from by have:=want_calls (⟨#[58]⟩:ByteArray) (by rw [L58];simp) HX3.out.p;rwa [L58] at this)).mono ?_
  rintro e w3 ⟨⟨hb_,hk_⟩,h_⟩
  have hr:=HR.out
  clear HR
  rcases hv:wantP en [58] ts.tail with q | us
  · rw [hv] at h_ hr
    obtain rfl:=h_
    (try simp only [bind_err] at hr)
    obtain rfl:=hr
    have HZ:=aM (And.intro hb_ (HX3.out.k.trans hk_ (.inl rfl)))
    clear hb_ hk_ hv
    go_wp2
    exact ⟨rfl,HZ.out,rfl⟩
  have HV:=aM hv
  rw [hv] at h_ hr
  obtain ⟨rfl,hp_⟩:=h_
  (try simp only [bind_ok] at hr)
  have HX4:=aM (HX3.out.call hp_ hk_)
  have HR:=aM hr
  clear hb_ hk_ hp_ hr hv
  clear HX HX1 HX2 HX3 hc1 hf1
  obtain ⟨Rr,hR⟩:∃ Rr,codeP en (us.length+1) [] n us=Rr:=⟨_,rfl⟩
  have hr:=HR.out
  rw [hR] at hr
  obtain rfl:=hr
  have HF:=aM hR
  clear HR hR
  go_wp2
  (try simp only [Act.put,qA,qB,qC])
  go_loopg [5] (us.length+1) (fun kq v5 w'=>∃ (acc:List SI) (vs:List Tk) (m:Int),Aside0 (codeP en kq acc m vs=Rr)∧Aside0 (vs.length<kq∧acc.length+vs.length≤65536∧0≤m∧m≤4096)∧Aside0 (BPAt g tl vs acc v5 en m w0 w w'))
  case atStart=>exact ⟨[],us,n,HF,⟨Nat.lt_succ_self _,by have:=HX4.out.p.len;simpa using this,hn⟩,HX4⟩
  case round=>
    clear HX4 HF
    obtain ⟨acc,vs,m,HF,HLN,HX⟩:=hrel
    obtain ⟨A5,c5,e5_⟩:=Kd.R_slice HX.out.row
    subst e5_
    cases gk with
    | zero=>exact absurd HLN.out.1 (by omega)
    | succ k1=>
      have hl:=HF.out
      simp only [codeP] at hl
      obtain ⟨c,hc⟩:∃ c,(((pk0 vs).toList !=([125]:List UInt8)) && ((pk1 vs).toList !=([58]:List UInt8)))=c:=⟨_,rfl⟩
      rw [hc] at hl
      have HC:=aM hc
      have HF:=aM hl
      clear hc hl
      go_upto_region 8 with (fail)
      go_cut [34] (fun v34 wc=>v34=.bool c∧Aside0 (BPAt g tl vs acc (.slice A5 acc.length c5) en m w0 w wc))
      case first=>
        have hc:=HC.out
        clear HC HF
        by_cases y:(pk0 vs).toList=([125]:List UInt8)
        · have y2:((pk0 vs).toList !=([125]:List UInt8))=false:=bne_eq_false_iff_eq.mpr y
          have y1:((pk0 vs).toList==([125]:List UInt8))=true:=beq_iff_eq.mpr y
          rw [y2,Bool.false_and] at hc
          subst hc
          clear y
          go_wp2_with fail
          refine (peek0_calls HX.out.p).mono ?_
          rintro e w5 ⟨rfl,hp_,hk_⟩
          have HX1:=aM (HX.out.call hp_ hk_)
          clear hp_ hk_
          go_wp2_with fail
          go_meet
          exact ⟨rfl,HX1⟩
        · have y2:((pk0 vs).toList !=([125]:List UInt8))=true:=bne_iff_ne.mpr y
          have y1:((pk0 vs).toList==([125]:List UInt8))=false:=beq_eq_false_iff_ne.mpr y
          rw [y2,Bool.true_and] at hc
          subst hc
          clear y
          go_wp2_with fail
          refine (peek0_calls HX.out.p).mono ?_
          rintro e w5 ⟨rfl,hp_,hk_⟩
          have HX1:=aM (HX.out.call hp_ hk_)
          clear hp_ hk_
          go_wp2_with fail
          refine (peek1_calls HX1.out.p).mono ?_
          rintro e w6 ⟨rfl,hp_,hk_⟩
          have HX2:=aM (HX1.out.call hp_ hk_)
          clear hp_ hk_
          go_wp2_with fail
          go_meet
          exact ⟨rfl,HX2⟩
      case rest=>
        clear HX HC
        obtain ⟨rfl,HX⟩:=hcut
        have hl:=HF.out
        clear HF
        cases c with
        | false=>
          rw [if_neg (by decide)] at hl
          subst hl
          go_wp2
          (try simp only [Exit.inBlock,Exit.then])
          go_ret
          exact ⟨⟨HX.out.p.b,HX.out.k⟩,⟨_,rfl,HX.out.row⟩,HX.out.p⟩
        | true=>
          rw [if_pos rfl] at hl
          obtain ⟨hc3,hf3⟩:=HX.out.p.num
          by_cases z:m≥4096
          · rw [if_pos z] at hl
            subst hl
            have z1:decide (4096≤m)=true:=decide_eq_true z
            clear z
            go_wp2_with fail
            refine (fail_calls (c:=6) HX.out.p).mono ?_
            rintro e w9 ⟨rfl,hb_,hk_⟩
            have HZ:=aM (And.intro hb_ (HX.out.k.trans hk_ (.inl rfl)))
            clear hb_ hk_
            go_wp2
            exact ⟨rfl,HZ.out,rfl⟩
          rw [if_neg z] at hl
          have HM:=aM z
          have z1:decide (4096≤m)=false:=decide_eq_false z
          have HL:=aM hl
          have HX1:=aM (HX.out.call (HX.out.p.set3 (wrap64 (m+1))) ((KeepBut.refl _ g none).set_ 3 _))
          clear z hl
          go_upto_region 12 with (fail)
          have hw:wrap64 (m+1)=m+1:=w64 (by have:=HLN.out;omega) (by have:=HLN.out;omega)
          rw [hw] at HX1 ⊢
          generalize World.setCell _ ⟨g,3,none⟩ (.int .i64 (m+1))=W3 at HX1 ⊢
          clear hc3 hf3 HX hw z1
          go_wp2_with fail
          refine (instr_calls g tl vs en (m+1) w0 _ HX1.out.p).mono ?_
          rintro e w3_ ⟨⟨hb_,hk_⟩,h_⟩
          have hl:=HL.out
          clear HL
          rcases hv:instrP en vs with q | ⟨x,vs2⟩
          · rw [hv] at h_ hl
            obtain rfl:=h_
            simp only [bind_err] at hl
            subst hl
            have HZ:=aM (And.intro hb_ (HX1.out.k.trans hk_ (.inl rfl)))
            clear hb_ hk_ hv
            go_wp2
            exact ⟨rfl,HZ.out,rfl⟩
          have HV:=aM (show vs2.length<vs.length from instrP_len hv)
          rw [hv] at h_ hl
          obtain ⟨⟨v4,v5,rfl,ht_⟩,hp_⟩:=h_
          simp only [bind_ok] at hl
          have HL:=aM hl
          obtain ⟨A6,c6,rfl⟩:=Kd.R_slice ht_.ra
          obtain ⟨A7,c7,rfl⟩:=Kd.R_slice ht_.rt
          have HX3:=aM (HX1.out.call hp_ hk_)
          have HR4:=aM (Kd.R_lower ht_.ra (keep_size HX1.out.k))
          have HR5:=aM (Kd.R_lower ht_.rt (keep_size HX1.out.k))
          clear hb_ hk_ hv hp_ hl ht_ HX1
          simp only [iObj]
          go_wp2_with (first | ((with_reducible refine gate_builtin (b:=.append) (xs:=#[.tmp 49,.tmp 52]) rfl ?_);at_builtin;refine Kd.R_append k39 w.heap.size rfl (.tmp 49) (.tmp 52) 36 39 (.agg #[.int .i64 0,.int .i64 0,.int .i64 0,.int .i64 0,.slice none 0 0,.slice none 0 0,.string ⟨#[]⟩,.int .i64 0]) 104 rfl Try.underlying36 (by kernel_rfl) rfl (by decide) (by omega) (.slice A5 acc.length c5) acc x [.int .i64 x.f0,.int .i64 x.f1,.int .i64 x.f2,.int .i64 x.f3,.slice A6 x.f4.length c6,.slice A7 x.f5.length c7,.string x.f6,.int .i64 x.f7] (fun _=>True) (fun k=>True∧some k≠(Value.slice A5 acc.length c5).ownBlock) rfl rfl (k39_mkM _ _ _ x (Kd.R_apart' HR4.out (Kd.R_typed HX3.out.row) (by decide)) (Kd.R_apart' HR5.out (Kd.R_typed HX3.out.row) (by decide))) (fun k hk=>⟨trivial,hk.2⟩) (fun k hk=>trivial) HX3.out.row (Below.refl _ _) (keep_size HX3.out.k) (by have:=HLN.out;omega) ?_;intro v1 w4_ hr4 hb4 hg4 hv4;obtain ⟨A8,c8,e8⟩:=Kd.R_slice hr4;rw [List.length_append,List.length_singleton] at e8;subst e8;have HX9:=aM (HX3.out.app hr4 hg4);clear hr4 hb4 hg4 hv4))
          go_roundg k1
          case measure=>omega
          case rel=>exact ⟨acc++[x],vs2,m+1,HL,⟨by have:=HV.out;have:=HLN.out;omega,by have:=HV.out;have:=HLN.out;simp;omega,by have:=HLN.out;omega,by have:=HM.out;omega⟩,HX9⟩
end Go.Proofs.Ytkjdblbgmomieaa.PSh
end
