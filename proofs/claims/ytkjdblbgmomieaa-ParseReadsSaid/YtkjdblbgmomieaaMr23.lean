import Derived.Test.YtkjdblbgmomieaaMr20
import Derived.Test.YtkjdblbgmomieaaMr21
import Derived.Test.YtkjdblbgmomieaaMr22
-- from YtkjdblbgmomieaaHROper
section
namespace Go.Proofs.Ytkjdblbgmomieaa.PSh
set_option maxHeartbeats 8000000
set_option maxRecDepth 100000
open Go.RowKit Go.Proofs.YtkjdblbgmomieaaW.PrintWords Go.Proofs.YtkjdblbgmomieaaW.PrintLast Go.Proofs.YtkjdblbgmomieaaW.PrintMore Go.Proofs.Ytkjdblbgmomieaa.Str
set_option linter.unusedVariables false
set_option linter.unusedSimpArgs false
def r06_Reader_operands.f (k:Nat) (tl:List (S101)) (s1 s2 s3 s4 s5:Int) (op n:Int) (nm:ByteArray):Option (Int × ByteArray × List Int × List Int × Int × Int × Int × Int × Int):=
  if op=1 then (r06_Reader_number.f k tl s1 s2 s3 s4 s5 (-9223372036854775808) 9223372036854775807).bind fun y=>some (y.1,nm,[],[],y.2.1,y.2.2.1,y.2.2.2.1,y.2.2.2.2.1,y.2.2.2.2.2)
  else if op=29 then (r06_Reader_number.f k tl s1 s2 s3 s4 s5 0 255).bind fun y=>some (y.1,nm,[],[],y.2.1,y.2.2.1,y.2.2.2.1,y.2.2.2.2.1,y.2.2.2.2.2)
  else if op=10 then (r06_Reader_peek.f tl s1 s2 s3 s4 s5 0).bind fun p=>(r03_Parse.f k p.1).bind fun q=>if q.2.2=0 then some (n,p.1,[],[],wrap64 (p.2.1+1),p.2.2.1,p.2.2.2.1,p.2.2.2.2.1,p.2.2.2.2.2) else (r06_Reader_fail.f tl p.2.1 p.2.2.1 p.2.2.2.1 p.2.2.2.2.1 p.2.2.2.2.2 q.2.2).bind fun z=>some (n,nm,[],[],z.1,z.2.1,z.2.2.1,z.2.2.2.1,z.2.2.2.2)
  else if op=20 then (r06_Reader_phi.f k tl s1 s2 s3 s4 s5).bind fun y=>some (n,nm,y.1,y.2.1,y.2.2.1,y.2.2.2.1,y.2.2.2.2.1,y.2.2.2.2.2.1,y.2.2.2.2.2.2)
  else if op=21 then (r06_Reader_call.f k tl s1 s2 s3 s4 s5 n).bind fun y=>some (y.1,y.2.1,y.2.2.1,[],y.2.2.2.1,y.2.2.2.2.1,y.2.2.2.2.2.1,y.2.2.2.2.2.2.1,y.2.2.2.2.2.2.2)
  else if op=28 then (r06_Reader_taken.f tl s1 s2 s3 s4 s5).bind fun c=>if c.1=true then (r06_Reader_rest.f k tl c.2.1 c.2.2.1 c.2.2.2.1 c.2.2.2.2.1 c.2.2.2.2.2 n (⟨#[118]⟩:ByteArray)).bind fun y=>some (y.1,nm,y.2.1,y.2.2.1,y.2.2.2.1,y.2.2.2.2.1,y.2.2.2.2.2.1,y.2.2.2.2.2.2.1,y.2.2.2.2.2.2.2) else some (n,nm,[],[],c.2.1,c.2.2.1,c.2.2.2.1,c.2.2.2.2.1,c.2.2.2.2.2)
  else (r06_letters.f k op).bind fun l=>(r06_Reader_rest.f k tl s1 s2 s3 s4 s5 n l).bind fun y=>some (y.1,nm,y.2.1,y.2.2.1,y.2.2.2.1,y.2.2.2.2.1,y.2.2.2.2.2.1,y.2.2.2.2.2.2.1,y.2.2.2.2.2.2.2)
theorem r06_Reader_operands.calls (k g:Nat) (tl:List (S101)) (s1 s2 s3 s4 s5:Int) (op id n ty:Int) (nm:ByteArray) (at_:Int) (rn:Int) (rnm:ByteArray) (ras rts:List Int) (r1 r2 r3 r4 r5:Int) (w0 w:World) (hI:IsS89 w0 w g tl s1 s2 s3 s4 s5) (hB:Below w0.heap.size w0 w) (h:r06_Reader_operands.f k tl s1 s2 s3 s4 s5 op n nm=some (rn,rnm,ras,rts,r1,r2,r3,r4,r5)):
    Calls Try.prog 103 #[.pointer (some ⟨g,0,none⟩),.agg #[.int .i64 op,.int .i64 id,.int .i64 n,.int .i64 ty,.slice none 0 0,.slice none 0 0,.string nm,.int .i64 at_]] w fun e w'=>∃ va vt:Value,e=.returned (.agg #[.int .i64 op,.int .i64 id,.int .i64 rn,.int .i64 ty,va,vt,.string rnm,.int .i64 at_])∧TwoR w' w.heap.size va vt ras rts∧IsS89 w0 w' g tl r1 r2 r3 r4 r5∧Below w0.heap.size w0 w'∧KeepBut w w' g none:=by
  have hu39:=Try.underlying39
  have hu73:=Try.underlying73
  unfold r06_Reader_operands.f at h
  have HF:=aM h
  clear h
  have HI:=aM hI
  have HB:=aM hB
  have HL:=aM hI.lt
  clear hI hB
  go_enter Try.func103,Try.ntmps103
  have hy:=blk_alloc (blk_new w (.cells #[.int .i64 op,.int .i64 id,.int .i64 n,.int .i64 ty,.slice none 0 0,.slice none 0 0,.string nm,.int .i64 at_] 39)) (.cells #[.int .i64 0,.int .i64 0,.int .i64 0,.int .i64 0,.slice none 0 0,.slice none 0 0,.string ⟨#[]⟩,.int .i64 0] 39)
  have hz:=blk_new (w.alloc (.cells #[.int .i64 op,.int .i64 id,.int .i64 n,.int .i64 ty,.slice none 0 0,.slice none 0 0,.string nm,.int .i64 at_] 39)) (.cells #[.int .i64 0,.int .i64 0,.int .i64 0,.int .i64 0,.slice none 0 0,.slice none 0 0,.string ⟨#[]⟩,.int .i64 0] 39)
  have hs:(w.alloc (.cells #[.int .i64 op,.int .i64 id,.int .i64 n,.int .i64 ty,.slice none 0 0,.slice none 0 0,.string nm,.int .i64 at_] 39)).heap.size=w.heap.size+1:=by simp
  rw [hs] at hz
  have hi0:=(HI.out.alloc (.cells #[.int .i64 op,.int .i64 id,.int .i64 n,.int .i64 ty,.slice none 0 0,.slice none 0 0,.string nm,.int .i64 at_] 39)).alloc (.cells #[.int .i64 0,.int .i64 0,.int .i64 0,.int .i64 0,.slice none 0 0,.slice none 0 0,.string ⟨#[]⟩,.int .i64 0] 39)
  have hb0:=below_alloc (below_alloc HB.out (.cells #[.int .i64 op,.int .i64 id,.int .i64 n,.int .i64 ty,.slice none 0 0,.slice none 0 0,.string nm,.int .i64 at_] 39)) (.cells #[.int .i64 0,.int .i64 0,.int .i64 0,.int .i64 0,.slice none 0 0,.slice none 0 0,.string ⟨#[]⟩,.int .i64 0] 39)
  have hk0:=keep_alloc (keep_alloc (g:=g) (KeepBut.refl w g none) (.cells #[.int .i64 op,.int .i64 id,.int .i64 n,.int .i64 ty,.slice none 0 0,.slice none 0 0,.string nm,.int .i64 at_] 39)) (.cells #[.int .i64 0,.int .i64 0,.int .i64 0,.int .i64 0,.slice none 0 0,.slice none 0 0,.string ⟨#[]⟩,.int .i64 0] 39)
  clear hs
  go_upto_region 1 with (fail)
  generalize (w.alloc (.cells #[.int .i64 op,.int .i64 id,.int .i64 n,.int .i64 ty,.slice none 0 0,.slice none 0 0,.string nm,.int .i64 at_] 39)).alloc (.cells #[.int .i64 0,.int .i64 0,.int .i64 0,.int .i64 0,.slice none 0 0,.slice none 0 0,.string ⟨#[]⟩,.int .i64 0] 39)=W0 at hy hz hi0 hb0 hk0 ⊢
  have HX:=aM (show IXAt g (w.heap.size+1) W0.heap.size #[.int .i64 0,.int .i64 0,.int .i64 0,.int .i64 0,.slice none 0 0,.slice none 0 0,.string ⟨#[]⟩,.int .i64 0] tl ⟨op,id,n,ty,[],[],nm,at_⟩ (.slice none 0 0) (.slice none 0 0) s1 s2 s3 s4 s5 w0 w (W0.alloc (.cells #[.int .i64 op,.int .i64 id,.int .i64 n,.int .i64 ty,.slice none 0 0,.slice none 0 0,.string nm,.int .i64 at_] 39)) from
    ⟨hi0.alloc _,below_alloc hb0 _,keep_alloc hk0 _,HB.out.size,HL.out,Nat.le_succ _,blk_lt hz,blk_alloc hz _,blk_new _ _,TwoR.nil _ _⟩)
  have y_0:=blk_cell hy 0
  have y_1:=blk_cell hy 1
  have y_2:=blk_cell hy 2
  have y_3:=blk_cell hy 3
  have y_4:=blk_cell hy 4
  have y_5:=blk_cell hy 5
  have y_6:=blk_cell hy 6
  have y_7:=blk_cell hy 7
  clear hy hz hi0 hb0 hk0
  generalize hbx:W0.heap.size=bx_ at HX
  go_upto_region 2 with (fail)
  generalize W0.alloc (.cells #[.int .i64 op,.int .i64 id,.int .i64 n,.int .i64 ty,.slice none 0 0,.slice none 0 0,.string nm,.int .i64 at_] 39)=W1 at HX ⊢
  clear y_0 y_1 y_2 y_3 y_4 y_5 y_6 y_7
  have z0:=HX.out.at1 0
  simp only [iObj] at z0
  have h:=HF.out
  clear HF
  by_cases k1:op=1
  · rw [if_pos k1] at h
    have g1:(op==1)=true:=beq_iff_eq.mpr k1
    clear k1
    obtain ⟨⟨y0,y1,y2,y3,y4,y5⟩,hy,h⟩:=Option.bind_eq_some_iff.mp h
    have HY:=aM hy
    clear hy
    replace h:=Option.some.inj h
    simp only [Prod.mk.injEq] at h
    obtain ⟨rfl,rfl,rfl,rfl,rfl,rfl,rfl,rfl,rfl⟩:=h
    go_wp2_with fail
    refine (r06_Reader_number.calls k g tl _ _ _ _ _ (-9223372036854775808) 9223372036854775807 _ _ _ _ _ _ w0 _ HX.out.i HX.out.b HY.out).mono ?_
    rintro e w1 ⟨rfl,hi_,hb_,hk_⟩
    have HX1:=aM (HX.out.call hi_ hb_ hk_)
    clear hi_ hb_ hk_
    have c2_:=HX1.out.at1 2
    have f2_:=blk_frozen HX1.out.box 2
    simp only [iObj] at c2_
    have HX2:=aM (HX1.out.put (⟨op,id,y0,ty,[],[],nm,at_⟩:S39) 2 (.int .i64 y0) rfl rfl rfl)
    go_upto_region 23 with (fail)
    generalize w1.setCell ⟨bx_,2,none⟩ (.int .i64 y0)=W2 at HX2 ⊢
    clear c2_ f2_ z0 HX1
    have c_0:=HX2.out.at1 0
    have f_0:=blk_frozen HX2.out.box 0
    have d_0:=blk_cell HX2.out.zero 0
    have e_0:=blk_frozen HX2.out.zero 0
    have c_1:=HX2.out.at1 1
    have f_1:=blk_frozen HX2.out.box 1
    have d_1:=blk_cell HX2.out.zero 1
    have e_1:=blk_frozen HX2.out.zero 1
    have c_2:=HX2.out.at1 2
    have f_2:=blk_frozen HX2.out.box 2
    have d_2:=blk_cell HX2.out.zero 2
    have e_2:=blk_frozen HX2.out.zero 2
    have c_3:=HX2.out.at1 3
    have f_3:=blk_frozen HX2.out.box 3
    have d_3:=blk_cell HX2.out.zero 3
    have e_3:=blk_frozen HX2.out.zero 3
    have c_4:=HX2.out.at1 4
    have f_4:=blk_frozen HX2.out.box 4
    have d_4:=blk_cell HX2.out.zero 4
    have e_4:=blk_frozen HX2.out.zero 4
    have c_5:=HX2.out.at1 5
    have f_5:=blk_frozen HX2.out.box 5
    have d_5:=blk_cell HX2.out.zero 5
    have e_5:=blk_frozen HX2.out.zero 5
    have c_6:=HX2.out.at1 6
    have f_6:=blk_frozen HX2.out.box 6
    have d_6:=blk_cell HX2.out.zero 6
    have e_6:=blk_frozen HX2.out.zero 6
    have c_7:=HX2.out.at1 7
    have f_7:=blk_frozen HX2.out.box 7
    have d_7:=blk_cell HX2.out.zero 7
    have e_7:=blk_frozen HX2.out.zero 7
    have HE:=aM (HX2.out.fin HX2.out.two (.int .i64 (⟨op,id,y0,ty,[],[],nm,at_⟩:S39).f0) (.int .i64 (⟨op,id,y0,ty,[],[],nm,at_⟩:S39).f1) (.int .i64 (⟨op,id,y0,ty,[],[],nm,at_⟩:S39).f2) (.int .i64 (⟨op,id,y0,ty,[],[],nm,at_⟩:S39).f3) (.slice none 0 0) (.slice none 0 0) (.string (⟨op,id,y0,ty,[],[],nm,at_⟩:S39).f6) (.int .i64 (⟨op,id,y0,ty,[],[],nm,at_⟩:S39).f7))
    have hne:(w.heap.size+1)≠bx_:=by have:=HX2.out.lt;omega
    have hne':bx_≠(w.heap.size+1):=by have:=HX2.out.lt;omega
    simp only [iObj] at c_0 c_1 c_2 c_3 c_4 c_5 c_6 c_7
    go_wp2
    (try simp only [Exit.inBlock,Exit.then])
    refine bodyPost_ret (results_cell_row rfl _ _ (w.heap.size+1) 39 #[.int .i64 (⟨op,id,y0,ty,[],[],nm,at_⟩:S39).f0,.int .i64 (⟨op,id,y0,ty,[],[],nm,at_⟩:S39).f1,.int .i64 (⟨op,id,y0,ty,[],[],nm,at_⟩:S39).f2,.int .i64 (⟨op,id,y0,ty,[],[],nm,at_⟩:S39).f3,.slice none 0 0,.slice none 0 0,.string (⟨op,id,y0,ty,[],[],nm,at_⟩:S39).f6,.int .i64 (⟨op,id,y0,ty,[],[],nm,at_⟩:S39).f7] (0,0) _ rfl HE.out.1 Try.underlying39 rfl (by kernel_rfl)) rfl ?_
    exact ⟨_,_,rfl,HE.out.2.1,HE.out.2.2.1,HE.out.2.2.2.1,HE.out.2.2.2.2⟩
  rw [if_neg k1] at h
  have g1:(op==1)=false:=beq_eq_false_iff_ne.mpr k1
  by_cases k29:op=29
  · rw [if_pos k29] at h
    have g29:(op==29)=true:=beq_iff_eq.mpr k29
    clear k29
    obtain ⟨⟨y0,y1,y2,y3,y4,y5⟩,hy,h⟩:=Option.bind_eq_some_iff.mp h
    have HY:=aM hy
    clear hy
    replace h:=Option.some.inj h
    simp only [Prod.mk.injEq] at h
    obtain ⟨rfl,rfl,rfl,rfl,rfl,rfl,rfl,rfl,rfl⟩:=h
    go_wp2_with fail
    refine (r06_Reader_number.calls k g tl _ _ _ _ _ 0 255 _ _ _ _ _ _ w0 _ HX.out.i HX.out.b HY.out).mono ?_
    rintro e w1 ⟨rfl,hi_,hb_,hk_⟩
    have HX1:=aM (HX.out.call hi_ hb_ hk_)
    clear hi_ hb_ hk_
    have c2_:=HX1.out.at1 2
    have f2_:=blk_frozen HX1.out.box 2
    simp only [iObj] at c2_
    have HX2:=aM (HX1.out.put (⟨op,id,y0,ty,[],[],nm,at_⟩:S39) 2 (.int .i64 y0) rfl rfl rfl)
    go_upto_region 23 with (fail)
    generalize w1.setCell ⟨bx_,2,none⟩ (.int .i64 y0)=W2 at HX2 ⊢
    clear c2_ f2_ z0 HX1
    have c_0:=HX2.out.at1 0
    have f_0:=blk_frozen HX2.out.box 0
    have d_0:=blk_cell HX2.out.zero 0
    have e_0:=blk_frozen HX2.out.zero 0
    have c_1:=HX2.out.at1 1
    have f_1:=blk_frozen HX2.out.box 1
    have d_1:=blk_cell HX2.out.zero 1
    have e_1:=blk_frozen HX2.out.zero 1
    have c_2:=HX2.out.at1 2
    have f_2:=blk_frozen HX2.out.box 2
    have d_2:=blk_cell HX2.out.zero 2
    have e_2:=blk_frozen HX2.out.zero 2
    have c_3:=HX2.out.at1 3
    have f_3:=blk_frozen HX2.out.box 3
    have d_3:=blk_cell HX2.out.zero 3
    have e_3:=blk_frozen HX2.out.zero 3
    have c_4:=HX2.out.at1 4
    have f_4:=blk_frozen HX2.out.box 4
    have d_4:=blk_cell HX2.out.zero 4
    have e_4:=blk_frozen HX2.out.zero 4
    have c_5:=HX2.out.at1 5
    have f_5:=blk_frozen HX2.out.box 5
    have d_5:=blk_cell HX2.out.zero 5
    have e_5:=blk_frozen HX2.out.zero 5
    have c_6:=HX2.out.at1 6
    have f_6:=blk_frozen HX2.out.box 6
    have d_6:=blk_cell HX2.out.zero 6
    have e_6:=blk_frozen HX2.out.zero 6
    have c_7:=HX2.out.at1 7
    have f_7:=blk_frozen HX2.out.box 7
    have d_7:=blk_cell HX2.out.zero 7
    have e_7:=blk_frozen HX2.out.zero 7
    have HE:=aM (HX2.out.fin HX2.out.two (.int .i64 (⟨op,id,y0,ty,[],[],nm,at_⟩:S39).f0) (.int .i64 (⟨op,id,y0,ty,[],[],nm,at_⟩:S39).f1) (.int .i64 (⟨op,id,y0,ty,[],[],nm,at_⟩:S39).f2) (.int .i64 (⟨op,id,y0,ty,[],[],nm,at_⟩:S39).f3) (.slice none 0 0) (.slice none 0 0) (.string (⟨op,id,y0,ty,[],[],nm,at_⟩:S39).f6) (.int .i64 (⟨op,id,y0,ty,[],[],nm,at_⟩:S39).f7))
    have hne:(w.heap.size+1)≠bx_:=by have:=HX2.out.lt;omega
    have hne':bx_≠(w.heap.size+1):=by have:=HX2.out.lt;omega
    simp only [iObj] at c_0 c_1 c_2 c_3 c_4 c_5 c_6 c_7
    go_wp2
    (try simp only [Exit.inBlock,Exit.then])
    refine bodyPost_ret (results_cell_row rfl _ _ (w.heap.size+1) 39 #[.int .i64 (⟨op,id,y0,ty,[],[],nm,at_⟩:S39).f0,.int .i64 (⟨op,id,y0,ty,[],[],nm,at_⟩:S39).f1,.int .i64 (⟨op,id,y0,ty,[],[],nm,at_⟩:S39).f2,.int .i64 (⟨op,id,y0,ty,[],[],nm,at_⟩:S39).f3,.slice none 0 0,.slice none 0 0,.string (⟨op,id,y0,ty,[],[],nm,at_⟩:S39).f6,.int .i64 (⟨op,id,y0,ty,[],[],nm,at_⟩:S39).f7] (0,0) _ rfl HE.out.1 Try.underlying39 rfl (by kernel_rfl)) rfl ?_
    exact ⟨_,_,rfl,HE.out.2.1,HE.out.2.2.1,HE.out.2.2.2.1,HE.out.2.2.2.2⟩
  rw [if_neg k29] at h
  have g29:(op==29)=false:=beq_eq_false_iff_ne.mpr k29
  by_cases k10:op=10
  · rw [if_pos k10] at h
    have g10:(op==10)=true:=beq_iff_eq.mpr k10
    clear k10
    obtain ⟨⟨p0,p1,p2,p3,p4,p5⟩,hp,h⟩:=Option.bind_eq_some_iff.mp h
    obtain ⟨⟨q0,q1,q2⟩,hq,h⟩:=Option.bind_eq_some_iff.mp h
    have HP:=aM hp
    have HQ:=aM hq
    have HF:=aM h
    clear hp hq h
    go_wp2_with fail
    refine (r06_Reader_peek.calls g tl _ _ _ _ _ 0 _ _ _ _ _ _ w0 _ HX.out.i HX.out.b HP.out).mono ?_
    rintro e w1 ⟨rfl,hi_,hb_,hk_⟩
    have HX1:=aM (HX.out.call hi_ hb_ hk_)
    clear hi_ hb_ hk_
    go_wp2_with fail
    refine (r03_Parse.calls k p0 q0 q1 q2 _ HQ.out).mono ?_
    rintro e w2 ⟨rfl,hb_⟩
    have HX2:=aM ((HX1.out.below hb_).below (below_alloc (Below.refl _ _) (.cells #[.int .i64 q0,.int .i64 q1] 73)))
    clear hb_ HX1 z0
    go_upto_region 11 with (fail)
    generalize w2.alloc (.cells #[.int .i64 q0,.int .i64 q1] 73)=W2 at HX2 ⊢
    have h:=HF.out
    by_cases kq:q2=0
    · rw [if_pos kq] at h
      have gq:(q2 !=0)=false:=bne_eq_false_iff_eq.mpr kq
      have gq1:(q2==0)=true:=beq_iff_eq.mpr kq
      clear kq
      replace h:=Option.some.inj h
      simp only [Prod.mk.injEq] at h
      obtain ⟨rfl,rfl,rfl,rfl,rfl,rfl,rfl,rfl,rfl⟩:=h
      have c6_:=HX2.out.at1 6
      have f6_:=blk_frozen HX2.out.box 6
      simp only [iObj] at c6_
      have HX3:=aM (HX2.out.put (⟨op,id,n,ty,[],[],p0,at_⟩:S39) 6 (.string p0) rfl rfl rfl)
      go_upto_region 15 with (fail)
      generalize W2.setCell ⟨bx_,6,none⟩ (.string p0)=W3 at HX3 ⊢
      clear c6_ f6_ HX2
      obtain ⟨A0,c0,hG,hg_,hS_⟩:=HX3.out.i
      have hc1:=cellS89_1 hG
      have hf1:=blk_frozen hG 1
      have HX4:=aM (HX3.out.call (HX3.out.i.set_1 (wrap64 (p1+1))) (below_set HX3.out.b hg_) ((KeepBut.refl W3 g none).set_ 1 _))
      clear hG hg_ hS_
      go_upto_region 23 with (fail)
      generalize W3.setCell ⟨g,1,none⟩ (.int .i64 (wrap64 (p1+1)))=W4 at HX4 ⊢
      clear hc1 hf1 HX3
      have c_0:=HX4.out.at1 0
      have f_0:=blk_frozen HX4.out.box 0
      have d_0:=blk_cell HX4.out.zero 0
      have e_0:=blk_frozen HX4.out.zero 0
      have c_1:=HX4.out.at1 1
      have f_1:=blk_frozen HX4.out.box 1
      have d_1:=blk_cell HX4.out.zero 1
      have e_1:=blk_frozen HX4.out.zero 1
      have c_2:=HX4.out.at1 2
      have f_2:=blk_frozen HX4.out.box 2
      have d_2:=blk_cell HX4.out.zero 2
      have e_2:=blk_frozen HX4.out.zero 2
      have c_3:=HX4.out.at1 3
      have f_3:=blk_frozen HX4.out.box 3
      have d_3:=blk_cell HX4.out.zero 3
      have e_3:=blk_frozen HX4.out.zero 3
      have c_4:=HX4.out.at1 4
      have f_4:=blk_frozen HX4.out.box 4
      have d_4:=blk_cell HX4.out.zero 4
      have e_4:=blk_frozen HX4.out.zero 4
      have c_5:=HX4.out.at1 5
      have f_5:=blk_frozen HX4.out.box 5
      have d_5:=blk_cell HX4.out.zero 5
      have e_5:=blk_frozen HX4.out.zero 5
      have c_6:=HX4.out.at1 6
      have f_6:=blk_frozen HX4.out.box 6
      have d_6:=blk_cell HX4.out.zero 6
      have e_6:=blk_frozen HX4.out.zero 6
      have c_7:=HX4.out.at1 7
      have f_7:=blk_frozen HX4.out.box 7
      have d_7:=blk_cell HX4.out.zero 7
      have e_7:=blk_frozen HX4.out.zero 7
      have HE:=aM (HX4.out.fin HX4.out.two (.int .i64 (⟨op,id,n,ty,[],[],p0,at_⟩:S39).f0) (.int .i64 (⟨op,id,n,ty,[],[],p0,at_⟩:S39).f1) (.int .i64 (⟨op,id,n,ty,[],[],p0,at_⟩:S39).f2) (.int .i64 (⟨op,id,n,ty,[],[],p0,at_⟩:S39).f3) (.slice none 0 0) (.slice none 0 0) (.string (⟨op,id,n,ty,[],[],p0,at_⟩:S39).f6) (.int .i64 (⟨op,id,n,ty,[],[],p0,at_⟩:S39).f7))
      have hne:(w.heap.size+1)≠bx_:=by have:=HX4.out.lt;omega
      have hne':bx_≠(w.heap.size+1):=by have:=HX4.out.lt;omega
      simp only [iObj] at c_0 c_1 c_2 c_3 c_4 c_5 c_6 c_7
      go_wp2
      (try simp only [Exit.inBlock,Exit.then])
      refine bodyPost_ret (results_cell_row rfl _ _ (w.heap.size+1) 39 #[.int .i64 (⟨op,id,n,ty,[],[],p0,at_⟩:S39).f0,.int .i64 (⟨op,id,n,ty,[],[],p0,at_⟩:S39).f1,.int .i64 (⟨op,id,n,ty,[],[],p0,at_⟩:S39).f2,.int .i64 (⟨op,id,n,ty,[],[],p0,at_⟩:S39).f3,.slice none 0 0,.slice none 0 0,.string (⟨op,id,n,ty,[],[],p0,at_⟩:S39).f6,.int .i64 (⟨op,id,n,ty,[],[],p0,at_⟩:S39).f7] (0,0) _ rfl HE.out.1 Try.underlying39 rfl (by kernel_rfl)) rfl ?_
      exact ⟨_,_,rfl,HE.out.2.1,HE.out.2.2.1,HE.out.2.2.2.1,HE.out.2.2.2.2⟩
    · rw [if_neg kq] at h
      have gq:(q2 !=0)=true:=bne_iff_ne.mpr kq
      have gq1:(q2==0)=false:=beq_eq_false_iff_ne.mpr kq
      clear kq
      obtain ⟨⟨f1,f2,f3,f4,f5⟩,hf,h⟩:=Option.bind_eq_some_iff.mp h
      have HFL:=aM hf
      clear hf
      replace h:=Option.some.inj h
      simp only [Prod.mk.injEq] at h
      obtain ⟨rfl,rfl,rfl,rfl,rfl,rfl,rfl,rfl,rfl⟩:=h
      go_wp2_with fail
      refine (r06_Reader_fail.calls g tl _ _ _ _ _ q2 _ _ _ _ _ w0 _ HX2.out.i HX2.out.b HFL.out).mono ?_
      rintro e w3 ⟨rfl,hi_,hb_,hk_⟩
      have HX3:=aM (HX2.out.call hi_ hb_ hk_)
      clear hi_ hb_ hk_ HX2
      go_upto_region 13 with (fail)
      have c_0:=HX3.out.at1 0
      have f_0:=blk_frozen HX3.out.box 0
      have d_0:=blk_cell HX3.out.zero 0
      have e_0:=blk_frozen HX3.out.zero 0
      have c_1:=HX3.out.at1 1
      have f_1:=blk_frozen HX3.out.box 1
      have d_1:=blk_cell HX3.out.zero 1
      have e_1:=blk_frozen HX3.out.zero 1
      have c_2:=HX3.out.at1 2
      have f_2:=blk_frozen HX3.out.box 2
      have d_2:=blk_cell HX3.out.zero 2
      have e_2:=blk_frozen HX3.out.zero 2
      have c_3:=HX3.out.at1 3
      have f_3:=blk_frozen HX3.out.box 3
      have d_3:=blk_cell HX3.out.zero 3
      have e_3:=blk_frozen HX3.out.zero 3
      have c_4:=HX3.out.at1 4
      have f_4:=blk_frozen HX3.out.box 4
      have d_4:=blk_cell HX3.out.zero 4
      have e_4:=blk_frozen HX3.out.zero 4
      have c_5:=HX3.out.at1 5
      have f_5:=blk_frozen HX3.out.box 5
      have d_5:=blk_cell HX3.out.zero 5
      have e_5:=blk_frozen HX3.out.zero 5
      have c_6:=HX3.out.at1 6
      have f_6:=blk_frozen HX3.out.box 6
      have d_6:=blk_cell HX3.out.zero 6
      have e_6:=blk_frozen HX3.out.zero 6
      have c_7:=HX3.out.at1 7
      have f_7:=blk_frozen HX3.out.box 7
      have d_7:=blk_cell HX3.out.zero 7
      have e_7:=blk_frozen HX3.out.zero 7
      have HE:=aM (HX3.out.fin HX3.out.two (.int .i64 (⟨op,id,n,ty,[],[],nm,at_⟩:S39).f0) (.int .i64 (⟨op,id,n,ty,[],[],nm,at_⟩:S39).f1) (.int .i64 (⟨op,id,n,ty,[],[],nm,at_⟩:S39).f2) (.int .i64 (⟨op,id,n,ty,[],[],nm,at_⟩:S39).f3) (.slice none 0 0) (.slice none 0 0) (.string (⟨op,id,n,ty,[],[],nm,at_⟩:S39).f6) (.int .i64 (⟨op,id,n,ty,[],[],nm,at_⟩:S39).f7))
      have hne:(w.heap.size+1)≠bx_:=by have:=HX3.out.lt;omega
      have hne':bx_≠(w.heap.size+1):=by have:=HX3.out.lt;omega
      simp only [iObj] at c_0 c_1 c_2 c_3 c_4 c_5 c_6 c_7
      go_wp2
      (try simp only [Exit.inBlock,Exit.then])
      refine bodyPost_ret (results_cell_row rfl _ _ (w.heap.size+1) 39 #[.int .i64 (⟨op,id,n,ty,[],[],nm,at_⟩:S39).f0,.int .i64 (⟨op,id,n,ty,[],[],nm,at_⟩:S39).f1,.int .i64 (⟨op,id,n,ty,[],[],nm,at_⟩:S39).f2,.int .i64 (⟨op,id,n,ty,[],[],nm,at_⟩:S39).f3,.slice none 0 0,.slice none 0 0,.string (⟨op,id,n,ty,[],[],nm,at_⟩:S39).f6,.int .i64 (⟨op,id,n,ty,[],[],nm,at_⟩:S39).f7] (0,0) _ rfl HE.out.1 Try.underlying39 rfl (by kernel_rfl)) rfl ?_
      exact ⟨_,_,rfl,HE.out.2.1,HE.out.2.2.1,HE.out.2.2.2.1,HE.out.2.2.2.2⟩
  rw [if_neg k10] at h
  have g10:(op==10)=false:=beq_eq_false_iff_ne.mpr k10
  by_cases k20:op=20
  · rw [if_pos k20] at h
    have g20:(op==20)=true:=beq_iff_eq.mpr k20
    clear k20
    obtain ⟨⟨y0,y1,y2,y3,y4,y5,y6⟩,hy,h⟩:=Option.bind_eq_some_iff.mp h
    have HY:=aM hy
    clear hy
    replace h:=Option.some.inj h
    simp only [Prod.mk.injEq] at h
    obtain ⟨rfl,rfl,rfl,rfl,rfl,rfl,rfl,rfl,rfl⟩:=h
    have c_0:=HX.out.at1 0
    have c_1:=HX.out.at1 1
    have c_2:=HX.out.at1 2
    have c_3:=HX.out.at1 3
    have c_4:=HX.out.at1 4
    have c_5:=HX.out.at1 5
    have c_6:=HX.out.at1 6
    have c_7:=HX.out.at1 7
    simp only [iObj] at c_0 c_1 c_2 c_3 c_4 c_5 c_6 c_7
    go_wp2_with fail
    refine (r06_Reader_phi.calls k g tl _ _ _ _ _ op id n ty nm at_ _ _ _ _ _ _ _ w0 _ HX.out.i HX.out.b HY.out).mono ?_
    rintro e w5 ⟨va,vt,rfl,ht_,hi_,hb_,hk_⟩
    obtain ⟨Aa,ca,rfl⟩:=Kd.R_slice ht_.ra
    obtain ⟨At,ct,rfl⟩:=Kd.R_slice ht_.rt
    have HX5:=aM (HX.out.call hi_ hb_ hk_)
    have HT:=aM (ht_.lower (keep_size HX.out.k))
    clear ht_ hi_ hb_ hk_ z0
    clear c_0 c_1 c_2 c_3 c_4 c_5 c_6 c_7
    have d_0:=blk_cell HX5.out.zero 0
    have e_0:=blk_frozen HX5.out.zero 0
    have d_1:=blk_cell HX5.out.zero 1
    have e_1:=blk_frozen HX5.out.zero 1
    have d_2:=blk_cell HX5.out.zero 2
    have e_2:=blk_frozen HX5.out.zero 2
    have d_3:=blk_cell HX5.out.zero 3
    have e_3:=blk_frozen HX5.out.zero 3
    have d_4:=blk_cell HX5.out.zero 4
    have e_4:=blk_frozen HX5.out.zero 4
    have d_5:=blk_cell HX5.out.zero 5
    have e_5:=blk_frozen HX5.out.zero 5
    have d_6:=blk_cell HX5.out.zero 6
    have e_6:=blk_frozen HX5.out.zero 6
    have d_7:=blk_cell HX5.out.zero 7
    have e_7:=blk_frozen HX5.out.zero 7
    have HE:=aM (HX5.out.fin HT.out (.int .i64 op) (.int .i64 id) (.int .i64 n) (.int .i64 ty) (.slice Aa y0.length ca) (.slice At y1.length ct) (.string nm) (.int .i64 at_))
    have hne:(w.heap.size+1)≠bx_:=by have:=HX5.out.lt;omega
    have hne':bx_≠(w.heap.size+1):=by have:=HX5.out.lt;omega
    go_wp2
    (try simp only [Exit.inBlock,Exit.then])
    refine bodyPost_ret (results_cell_row rfl _ _ (w.heap.size+1) 39 #[.int .i64 op,.int .i64 id,.int .i64 n,.int .i64 ty,.slice Aa y0.length ca,.slice At y1.length ct,.string nm,.int .i64 at_] (0,0) _ rfl HE.out.1 Try.underlying39 rfl (by kernel_rfl)) rfl ?_
    exact ⟨_,_,rfl,HE.out.2.1,HE.out.2.2.1,HE.out.2.2.2.1,HE.out.2.2.2.2⟩
  rw [if_neg k20] at h
  have g20:(op==20)=false:=beq_eq_false_iff_ne.mpr k20
  by_cases k21:op=21
  · rw [if_pos k21] at h
    have g21:(op==21)=true:=beq_iff_eq.mpr k21
    clear k21
    obtain ⟨⟨y0,y1,y2,y3,y4,y5,y6,y7⟩,hy,h⟩:=Option.bind_eq_some_iff.mp h
    have HY:=aM hy
    clear hy
    replace h:=Option.some.inj h
    simp only [Prod.mk.injEq] at h
    obtain ⟨rfl,rfl,rfl,rfl,rfl,rfl,rfl,rfl,rfl⟩:=h
    have c_0:=HX.out.at1 0
    have c_1:=HX.out.at1 1
    have c_2:=HX.out.at1 2
    have c_3:=HX.out.at1 3
    have c_4:=HX.out.at1 4
    have c_5:=HX.out.at1 5
    have c_6:=HX.out.at1 6
    have c_7:=HX.out.at1 7
    simp only [iObj] at c_0 c_1 c_2 c_3 c_4 c_5 c_6 c_7
    go_wp2_with fail
    refine (r06_Reader_call.calls k g tl _ _ _ _ _ op id n ty nm at_ _ _ _ _ _ _ _ _ w0 _ HX.out.i HX.out.b HY.out).mono ?_
    rintro e w5 ⟨va,rfl,ht_,hi_,hb_,hk_⟩
    obtain ⟨Aa,ca,rfl⟩:=Kd.R_slice ht_.ra
    have HX5:=aM (HX.out.call hi_ hb_ hk_)
    have HT:=aM (ht_.lower (keep_size HX.out.k))
    clear ht_ hi_ hb_ hk_ z0
    clear c_0 c_1 c_2 c_3 c_4 c_5 c_6 c_7
    have d_0:=blk_cell HX5.out.zero 0
    have e_0:=blk_frozen HX5.out.zero 0
    have d_1:=blk_cell HX5.out.zero 1
    have e_1:=blk_frozen HX5.out.zero 1
    have d_2:=blk_cell HX5.out.zero 2
    have e_2:=blk_frozen HX5.out.zero 2
    have d_3:=blk_cell HX5.out.zero 3
    have e_3:=blk_frozen HX5.out.zero 3
    have d_4:=blk_cell HX5.out.zero 4
    have e_4:=blk_frozen HX5.out.zero 4
    have d_5:=blk_cell HX5.out.zero 5
    have e_5:=blk_frozen HX5.out.zero 5
    have d_6:=blk_cell HX5.out.zero 6
    have e_6:=blk_frozen HX5.out.zero 6
    have d_7:=blk_cell HX5.out.zero 7
    have e_7:=blk_frozen HX5.out.zero 7
    have HE:=aM (HX5.out.fin HT.out (.int .i64 op) (.int .i64 id) (.int .i64 y0) (.int .i64 ty) (.slice Aa y2.length ca) (.slice none 0 0) (.string y1) (.int .i64 at_))
    have hne:(w.heap.size+1)≠bx_:=by have:=HX5.out.lt;omega
    have hne':bx_≠(w.heap.size+1):=by have:=HX5.out.lt;omega
    go_wp2
    (try simp only [Exit.inBlock,Exit.then])
    refine bodyPost_ret (results_cell_row rfl _ _ (w.heap.size+1) 39 #[.int .i64 op,.int .i64 id,.int .i64 y0,.int .i64 ty,.slice Aa y2.length ca,.slice none 0 0,.string y1,.int .i64 at_] (0,0) _ rfl HE.out.1 Try.underlying39 rfl (by kernel_rfl)) rfl ?_
    exact ⟨_,_,rfl,HE.out.2.1,HE.out.2.2.1,HE.out.2.2.2.1,HE.out.2.2.2.2⟩
  rw [if_neg k21] at h
  have g21:(op==21)=false:=beq_eq_false_iff_ne.mpr k21
  by_cases k28:op=28
  · rw [if_pos k28] at h
    have g28:(op==28)=true:=beq_iff_eq.mpr k28
    clear k28
    obtain ⟨⟨c,u1,u2,u3,u4,u5⟩,hc,h⟩:=Option.bind_eq_some_iff.mp h
    have HC:=aM hc
    clear hc
    go_wp2_with fail
    refine (r06_Reader_taken.calls g tl _ _ _ _ _ _ _ _ _ _ _ w0 _ HX.out.i HX.out.b HC.out).mono ?_
    rintro e w1 ⟨rfl,hi_,hb_,hk_⟩
    have HX1:=aM (HX.out.call hi_ hb_ hk_)
    clear hi_ hb_ hk_
    cases c with
    | true=>
      rw [if_pos rfl] at h
      obtain ⟨⟨y0,y1,y2,y3,y4,y5,y6,y7⟩,hy,h⟩:=Option.bind_eq_some_iff.mp h
      have HY:=aM hy
      clear hy z0
      replace h:=Option.some.inj h
      simp only [Prod.mk.injEq] at h
      obtain ⟨rfl,rfl,rfl,rfl,rfl,rfl,rfl,rfl,rfl⟩:=h
      have c_0:=HX1.out.at1 0
      have c_1:=HX1.out.at1 1
      have c_2:=HX1.out.at1 2
      have c_3:=HX1.out.at1 3
      have c_4:=HX1.out.at1 4
      have c_5:=HX1.out.at1 5
      have c_6:=HX1.out.at1 6
      have c_7:=HX1.out.at1 7
      simp only [iObj] at c_0 c_1 c_2 c_3 c_4 c_5 c_6 c_7
      go_wp2_with fail
      refine (r06_Reader_rest.calls k g tl _ _ _ _ _ op id n ty nm at_ (⟨#[118]⟩:ByteArray) _ _ _ _ _ _ _ _ w0 _ HX1.out.i HX1.out.b HY.out).mono ?_
      rintro e w5 ⟨va,vt,rfl,ht_,hi_,hb_,hk_⟩
      obtain ⟨Aa,ca,rfl⟩:=Kd.R_slice ht_.ra
      obtain ⟨At,ct,rfl⟩:=Kd.R_slice ht_.rt
      have HX5:=aM (HX1.out.call hi_ hb_ hk_)
      have HT:=aM (ht_.lower (keep_size HX1.out.k))
      clear ht_ hi_ hb_ hk_
      clear c_0 c_1 c_2 c_3 c_4 c_5 c_6 c_7
      have d_0:=blk_cell HX5.out.zero 0
      have e_0:=blk_frozen HX5.out.zero 0
      have d_1:=blk_cell HX5.out.zero 1
      have e_1:=blk_frozen HX5.out.zero 1
      have d_2:=blk_cell HX5.out.zero 2
      have e_2:=blk_frozen HX5.out.zero 2
      have d_3:=blk_cell HX5.out.zero 3
      have e_3:=blk_frozen HX5.out.zero 3
      have d_4:=blk_cell HX5.out.zero 4
      have e_4:=blk_frozen HX5.out.zero 4
      have d_5:=blk_cell HX5.out.zero 5
      have e_5:=blk_frozen HX5.out.zero 5
      have d_6:=blk_cell HX5.out.zero 6
      have e_6:=blk_frozen HX5.out.zero 6
      have d_7:=blk_cell HX5.out.zero 7
      have e_7:=blk_frozen HX5.out.zero 7
      have HE:=aM (HX5.out.fin HT.out (.int .i64 op) (.int .i64 id) (.int .i64 y0) (.int .i64 ty) (.slice Aa y1.length ca) (.slice At y2.length ct) (.string nm) (.int .i64 at_))
      have hne:(w.heap.size+1)≠bx_:=by have:=HX5.out.lt;omega
      have hne':bx_≠(w.heap.size+1):=by have:=HX5.out.lt;omega
      go_wp2
      (try simp only [Exit.inBlock,Exit.then])
      refine bodyPost_ret (results_cell_row rfl _ _ (w.heap.size+1) 39 #[.int .i64 op,.int .i64 id,.int .i64 y0,.int .i64 ty,.slice Aa y1.length ca,.slice At y2.length ct,.string nm,.int .i64 at_] (0,0) _ rfl HE.out.1 Try.underlying39 rfl (by kernel_rfl)) rfl ?_
      exact ⟨_,_,rfl,HE.out.2.1,HE.out.2.2.1,HE.out.2.2.2.1,HE.out.2.2.2.2⟩
    | false=>
      rw [if_neg (by simp)] at h
      replace h:=Option.some.inj h
      simp only [Prod.mk.injEq] at h
      obtain ⟨rfl,rfl,rfl,rfl,rfl,rfl,rfl,rfl,rfl⟩:=h
      go_upto_region 23 with (fail)
      clear z0
      have c_0:=HX1.out.at1 0
      have f_0:=blk_frozen HX1.out.box 0
      have d_0:=blk_cell HX1.out.zero 0
      have e_0:=blk_frozen HX1.out.zero 0
      have c_1:=HX1.out.at1 1
      have f_1:=blk_frozen HX1.out.box 1
      have d_1:=blk_cell HX1.out.zero 1
      have e_1:=blk_frozen HX1.out.zero 1
      have c_2:=HX1.out.at1 2
      have f_2:=blk_frozen HX1.out.box 2
      have d_2:=blk_cell HX1.out.zero 2
      have e_2:=blk_frozen HX1.out.zero 2
      have c_3:=HX1.out.at1 3
      have f_3:=blk_frozen HX1.out.box 3
      have d_3:=blk_cell HX1.out.zero 3
      have e_3:=blk_frozen HX1.out.zero 3
      have c_4:=HX1.out.at1 4
      have f_4:=blk_frozen HX1.out.box 4
      have d_4:=blk_cell HX1.out.zero 4
      have e_4:=blk_frozen HX1.out.zero 4
      have c_5:=HX1.out.at1 5
      have f_5:=blk_frozen HX1.out.box 5
      have d_5:=blk_cell HX1.out.zero 5
      have e_5:=blk_frozen HX1.out.zero 5
      have c_6:=HX1.out.at1 6
      have f_6:=blk_frozen HX1.out.box 6
      have d_6:=blk_cell HX1.out.zero 6
      have e_6:=blk_frozen HX1.out.zero 6
      have c_7:=HX1.out.at1 7
      have f_7:=blk_frozen HX1.out.box 7
      have d_7:=blk_cell HX1.out.zero 7
      have e_7:=blk_frozen HX1.out.zero 7
      have HE:=aM (HX1.out.fin HX1.out.two (.int .i64 (⟨op,id,n,ty,[],[],nm,at_⟩:S39).f0) (.int .i64 (⟨op,id,n,ty,[],[],nm,at_⟩:S39).f1) (.int .i64 (⟨op,id,n,ty,[],[],nm,at_⟩:S39).f2) (.int .i64 (⟨op,id,n,ty,[],[],nm,at_⟩:S39).f3) (.slice none 0 0) (.slice none 0 0) (.string (⟨op,id,n,ty,[],[],nm,at_⟩:S39).f6) (.int .i64 (⟨op,id,n,ty,[],[],nm,at_⟩:S39).f7))
      have hne:(w.heap.size+1)≠bx_:=by have:=HX1.out.lt;omega
      have hne':bx_≠(w.heap.size+1):=by have:=HX1.out.lt;omega
      simp only [iObj] at c_0 c_1 c_2 c_3 c_4 c_5 c_6 c_7
      go_wp2
      (try simp only [Exit.inBlock,Exit.then])
      refine bodyPost_ret (results_cell_row rfl _ _ (w.heap.size+1) 39 #[.int .i64 (⟨op,id,n,ty,[],[],nm,at_⟩:S39).f0,.int .i64 (⟨op,id,n,ty,[],[],nm,at_⟩:S39).f1,.int .i64 (⟨op,id,n,ty,[],[],nm,at_⟩:S39).f2,.int .i64 (⟨op,id,n,ty,[],[],nm,at_⟩:S39).f3,.slice none 0 0,.slice none 0 0,.string (⟨op,id,n,ty,[],[],nm,at_⟩:S39).f6,.int .i64 (⟨op,id,n,ty,[],[],nm,at_⟩:S39).f7] (0,0) _ rfl HE.out.1 Try.underlying39 rfl (by kernel_rfl)) rfl ?_
      exact ⟨_,_,rfl,HE.out.2.1,HE.out.2.2.1,HE.out.2.2.2.1,HE.out.2.2.2.2⟩
  rw [if_neg k28] at h
  have g28:(op==28)=false:=beq_eq_false_iff_ne.mpr k28
  obtain ⟨l,hl,h⟩:=Option.bind_eq_some_iff.mp h
  obtain ⟨⟨y0,y1,y2,y3,y4,y5,y6,y7⟩,hy,h⟩:=Option.bind_eq_some_iff.mp h
  have HLT:=aM hl
  have HY:=aM hy
  clear hl hy k1 k29 k10 k20 k21 k28
  replace h:=Option.some.inj h
  simp only [Prod.mk.injEq] at h
  obtain ⟨rfl,rfl,rfl,rfl,rfl,rfl,rfl,rfl,rfl⟩:=h
  go_upto_region 3 with (fail)
  clear z0
  have HXd:=aM (show IXAt g (w.heap.size+1) bx_ #[.int .i64 0,.int .i64 0,.int .i64 0,.int .i64 0,.slice none 0 0,.slice none 0 0,.string ⟨#[]⟩,.int .i64 0] tl ⟨op,id,n,ty,[],[],nm,at_⟩ (.slice none 0 0) (.slice none 0 0) s1 s2 s3 s4 s5 w0 w W1.drew from HX.out.below (below_drew1 (Below.refl _ _)))
  clear HX
  refine start_ (n:=7) (S:=fun w'=>w'.cell? ⟨bx_,0,none⟩=some (.int .i64 op)∧w'.cell? ⟨bx_,1,none⟩=some (.int .i64 id)∧w'.cell? ⟨bx_,2,none⟩=some (.int .i64 n)∧w'.cell? ⟨bx_,3,none⟩=some (.int .i64 ty)∧w'.cell? ⟨bx_,4,none⟩=some (.slice none 0 0)∧w'.cell? ⟨bx_,5,none⟩=some (.slice none 0 0)∧w'.cell? ⟨bx_,6,none⟩=some (.string nm)∧w'.cell? ⟨bx_,7,none⟩=some (.int .i64 at_)) (ds:=[6]) #[false,false,false,false,false,false,false] (by kernel_rfl) rfl rfl ⟨(HXd.out.at1 0),(HXd.out.at1 1),(HXd.out.at1 2),(HXd.out.at1 3),(HXd.out.at1 4),(HXd.out.at1 5),(HXd.out.at1 6),(HXd.out.at1 7)⟩ (fun hHeld=>?_)
  refine pure_ (i:=0) (N:=some 12) (v:=?_) (a':=?_) #[true,false,false,false,false,false,false] rfl rfl (by kernel_rfl) (fun _ _ _ h=>h) (Or.inl ⟨by rfl,?_⟩) ?_ ?_
  rotate_left
  · intro w'
    go_simp
    with_reducible rfl
  rotate_left
  · simp only [Act.put,qA,qB,qC,i64_w,i32_w]
    rfl
  refine pure_ (i:=2) (N:=some 14) (v:=?_) (a':=?_) #[true,false,true,false,false,false,false] rfl rfl (by kernel_rfl) (fun _ _ _ h=>h) (Or.inl ⟨by rfl,?_⟩) ?_ ?_
  rotate_left
  · intro w'
    go_simp
    with_reducible rfl
  rotate_left
  · simp only [Act.put,qA,qB,qC,i64_w,i32_w]
    rfl
  refine take_ (i:=1) (N:=some 13) (v:=?_) (a':=?_) #[true,true,true,false,false,false,false] rfl rfl (by kernel_rfl) (fun _ _ _ h=>h) (Or.inl ⟨by rfl,?_⟩) hHeld ?_ ?_
  rotate_left
  · rintro w' ⟨s0,s1,s2,s3,s4,s5,s6,s7⟩
    go_simp
    with_reducible rfl
  rotate_left
  · simp only [Act.put,qA,qB,qC,i64_w,i32_w]
    rfl
  refine take_ (i:=3) (N:=some 15) (v:=?_) (a':=?_) #[true,true,true,true,false,false,false] rfl rfl (by kernel_rfl) (fun _ _ _ h=>h) (Or.inl ⟨by rfl,?_⟩) hHeld ?_ ?_
  rotate_left
  · rintro w' ⟨s0,s1,s2,s3,s4,s5,s6,s7⟩
    go_simp
    with_reducible rfl
  rotate_left
  · simp only [Act.put,qA,qB,qC,i64_w,i32_w]
    rfl
  refine one_ (i:=4) (N:=some 16) #[true,true,true,true,true,false,false] rfl rfl (by kernel_rfl) (by decide) (fun K hK=>?_)
  refine goes_ Try.func115 (by kernel_rfl) rfl #[.int .i64 op] (by rfl) rfl rfl (by simp only [List.map_toArray,List.map_cons,List.map_nil];rfl) ?_
  with_reducible refine (r06_letters.calls k op l _ HLT.out).mono ?_
  rintro e w3_ ⟨rfl,hb_⟩
  refine ⟨_,rfl,?_⟩
  have HX3:=aM (HXd.out.below hb_)
  clear hb_
  refine hK.out _ _ ⟨(HX3.out.at1 0),(HX3.out.at1 1),(HX3.out.at1 2),(HX3.out.at1 3),(HX3.out.at1 4),(HX3.out.at1 5),(HX3.out.at1 6),(HX3.out.at1 7)⟩ (fun hHeld=>?_)
  clear hK K
  refine norm_ (a':=?_) ?_ ?_
  rotate_left
  · show Act.put _ (some 16) _=_
    simp only [Act.put,qA,qB,qC,i64_w,i32_w]
    rfl
  refine one_ (i:=5) (N:=some 17) #[true,true,true,true,true,true,false] rfl rfl (by kernel_rfl) (by decide) (fun K hK=>?_)
  refine goes_ Try.func114 (by kernel_rfl) rfl #[.pointer (some ⟨g,0,none⟩),.agg #[.int .i64 op,.int .i64 id,.int .i64 n,.int .i64 ty,.slice none 0 0,.slice none 0 0,.string nm,.int .i64 at_],.string l] (by rfl) rfl rfl (by simp only [List.map_toArray,List.map_cons,List.map_nil];rfl) ?_
  with_reducible refine (r06_Reader_rest.calls k g tl _ _ _ _ _ op id n ty nm at_ l _ _ _ _ _ _ _ _ w0 _ HX3.out.i HX3.out.b HY.out).mono ?_
  rintro e w5 ⟨va,vt,rfl,ht_,hi_,hb_,hk_⟩
  refine ⟨_,rfl,?_⟩
  obtain ⟨Aa,ca,rfl⟩:=Kd.R_slice ht_.ra
  obtain ⟨At,ct,rfl⟩:=Kd.R_slice ht_.rt
  have HX5:=aM (HX3.out.call hi_ hb_ hk_)
  have HT:=aM (ht_.lower (keep_size HX3.out.k))
  clear ht_ hi_ hb_ hk_
  have d_0:=blk_cell HX5.out.zero 0
  have e_0:=blk_frozen HX5.out.zero 0
  have d_1:=blk_cell HX5.out.zero 1
  have e_1:=blk_frozen HX5.out.zero 1
  have d_2:=blk_cell HX5.out.zero 2
  have e_2:=blk_frozen HX5.out.zero 2
  have d_3:=blk_cell HX5.out.zero 3
  have e_3:=blk_frozen HX5.out.zero 3
  have d_4:=blk_cell HX5.out.zero 4
  have e_4:=blk_frozen HX5.out.zero 4
  have d_5:=blk_cell HX5.out.zero 5
  have e_5:=blk_frozen HX5.out.zero 5
  have d_6:=blk_cell HX5.out.zero 6
  have e_6:=blk_frozen HX5.out.zero 6
  have d_7:=blk_cell HX5.out.zero 7
  have e_7:=blk_frozen HX5.out.zero 7
  have HE:=aM (HX5.out.fin HT.out (.int .i64 op) (.int .i64 id) (.int .i64 y0) (.int .i64 ty) (.slice Aa y1.length ca) (.slice At y2.length ct) (.string nm) (.int .i64 at_))
  refine hK.out _ _ ⟨(HX5.out.at1 0),(HX5.out.at1 1),(HX5.out.at1 2),(HX5.out.at1 3),(HX5.out.at1 4),(HX5.out.at1 5),(HX5.out.at1 6),(HX5.out.at1 7)⟩ (fun hHeld=>?_)
  clear hK K
  refine norm_ (a':=?_) ?_ ?_
  rotate_left
  · show Act.put _ (some 17) _=_
    simp only [Act.put,qA,qB,qC,i64_w,i32_w]
    rfl
  refine last_ (i:=6) (N:=none) #[true,true,true,true,true,true,true] rfl rfl (by kernel_rfl) (by decide) (fun K hK=>?_)
  refine skip_ (w1:=?_) (by rfl) rfl ?_ ?_
  rotate_left
  · go_simp
    rfl
  refine hK.out _ _ ?_
  clear hK K
  refine done_ (by kernel_rfl) ?_
  go_wp2
  (try simp only [Exit.inBlock,Exit.then])
  refine bodyPost_ret (results_cell_row rfl _ _ (w.heap.size+1) 39 #[.int .i64 op,.int .i64 id,.int .i64 y0,.int .i64 ty,.slice Aa y1.length ca,.slice At y2.length ct,.string nm,.int .i64 at_] (0,0) _ rfl HE.out.1 Try.underlying39 rfl (by kernel_rfl)) rfl ?_
  exact ⟨_,_,rfl,HE.out.2.1,HE.out.2.2.1,HE.out.2.2.2.1,HE.out.2.2.2.2⟩
end Go.Proofs.Ytkjdblbgmomieaa.PSh
end
-- from YtkjdblbgmomieaaRSimH
section
namespace Go.Proofs.Ytkjdblbgmomieaa.PSh
open Go.RowKit Go.Proofs.YtkjdblbgmomieaaW.PrintWords Go.Proofs.YtkjdblbgmomieaaW.PrintLast Go.Proofs.YtkjdblbgmomieaaW.PrintMore Go.Proofs.Ytkjdblbgmomieaa.Str Go.Proofs.Ytkjdblbgmomieaa.Dig Go.Proofs.Ytkjdblbgmomieaa.DigLaw
set_option linter.unusedVariables false
set_option linter.unusedSimpArgs false
def lettersL (op:Int):List UInt8:=if op=11∨op=12∨op=15 then [118,115] else if op=13∨op=14 then [118,115,118] else if op=23 then [110] else if op=24 then [118,110] else if op=26 then [108] else if op=27 then [118,108,108] else List.replicate (takesI op).length 118
theorem rtakes_ev (a:Int):Ev (fun k=>r05_Takes.f k a) (takesI a):=Ev.of (fun k=>r05_Takes.mono a k) (rtakes_c a)
theorem takes_two (a:Int):(takesI a).length≤2:=by
  unfold takesI nz
  rw [List.length_append]
  split<;>split<;>simp
theorem letters_l0 (op:Int):∀ (m i:Nat),i+m=(takesI op).length→Ev (fun k=>r06_letters.l0 k op (mk (List.replicate i 118)) (i:Int)) (mk (List.replicate (i+m) 118)):=by
  intro m
  have h2:=takes_two op
  induction m with
  | zero=>
    intro i hi
    refine Ev.step (f:=fun k=>(r05_Takes.f k op).bind fun t=>if (i:Int)<(t.length:Int) then (if (mk (List.replicate i 118)).size+1≤9223372036854775807 then r06_letters.l0 k op (mk (List.replicate i 118)++(⟨#[118]⟩:ByteArray)) (wrap64 ((i:Int)+1)) else none) else some (mk (List.replicate i 118))) (fun k=>rfl) ?_
    exact Ev.bind (rtakes_ev op) (ev_neg (by omega) (Ev.now _))
  | succ m ih=>
    intro i hi
    have key:=ih (i+1) (by omega)
    refine Ev.step (f:=fun k=>(r05_Takes.f k op).bind fun t=>if (i:Int)<(t.length:Int) then (if (mk (List.replicate i 118)).size+1≤9223372036854775807 then r06_letters.l0 k op (mk (List.replicate i 118)++(⟨#[118]⟩:ByteArray)) (wrap64 ((i:Int)+1)) else none) else some (mk (List.replicate i 118))) (fun k=>rfl) ?_
    refine Ev.bind (rtakes_ev op) (ev_pos (by omega) (ev_pos (by rw [mk_size,List.length_replicate];omega) ?_))
    have e1:mk (List.replicate i 118)++(⟨#[118]⟩:ByteArray)=mk (List.replicate (i+1) 118):=by
      rw [show (⟨#[118]⟩:ByteArray)=mk [118] from rfl,mk_append,List.replicate_succ']
    rw [e1,w64 (by omega) (by omega),show i+(m+1)=i+1+m by omega]
    exact key
theorem letters_ev (op:Int):Ev (fun k=>r06_letters.f k op) (mk (lettersL op)):=by
  have t0:∀ k,r06_letters.j0 (k+1) op op true=some (mk [118,115]):=fun k=>by simp only [r06_letters.j0];rw [if_pos trivial]
  have l0:=letters_l0 op (takesI op).length 0 (by omega)
  rw [Nat.zero_add] at l0
  have j1:∀ b:Bool,b=decide (op=13∨op=14)→¬ (op=11∨op=12∨op=15)→Ev (fun k=>r06_letters.j1 k op op b) (mk (lettersL op)):=by
    intro b hb h1
    unfold lettersL
    rw [if_neg h1]
    by_cases h2:op=13∨op=14
    · rw [if_pos h2]
      exact Ev.step (f:=fun _=>some (mk [118,115,118])) (fun k=>by simp only [r06_letters.j1];rw [if_pos (by rw [hb];exact decide_eq_true h2)]) (Ev.now _)
    · rw [if_neg h2]
      refine Ev.step (f:=fun k=>(if op=23 then (some (⟨#[110]⟩:ByteArray)) else (if op=24 then (some (⟨#[118,110]⟩:ByteArray)) else (if op=26 then (some (⟨#[108]⟩:ByteArray)) else (if op=27 then (some (⟨#[118,108,108]⟩:ByteArray)) else (r06_letters.l0 k op (⟨#[]⟩:ByteArray) 0)))))) (fun k=>by simp only [r06_letters.j1];rw [if_neg (by rw [hb,decide_eq_false h2];decide)]) ?_
      refine ev_if (fun h=>?_) (fun h=>?_)
      · rw [if_pos h];exact Ev.now _
      rw [if_neg h]
      refine ev_if (fun h=>?_) (fun h=>?_)
      · rw [if_pos h];exact Ev.now _
      rw [if_neg h]
      refine ev_if (fun h=>?_) (fun h=>?_)
      · rw [if_pos h];exact Ev.now _
      rw [if_neg h]
      refine ev_if (fun h=>?_) (fun h=>?_)
      · rw [if_pos h];exact Ev.now _
      rw [if_neg h]
      exact l0
  have j0:∀ b:Bool,b=decide (op=11∨op=12∨op=15)→Ev (fun k=>r06_letters.j0 k op op b) (mk (lettersL op)):=by
    intro b hb
    by_cases h1:op=11∨op=12∨op=15
    · rw [hb,decide_eq_true h1]
      unfold lettersL
      rw [if_pos h1]
      exact Ev.step (f:=fun _=>some (mk [118,115])) t0 (Ev.now _)
    · rw [hb,decide_eq_false h1]
      refine Ev.step (f:=fun k=>if op=13 then r06_letters.j1 k op op (op==13) else r06_letters.j1 k op op (op==14)) (fun k=>by simp only [r06_letters.j0];rw [if_neg (by decide)]) ?_
      refine ev_if (fun h=>j1 _ ?_ h1) (fun h=>j1 _ ?_ h1)
      · rw [beq_iff_eq.mpr h];exact (decide_eq_true (.inl h)).symm
      · by_cases h3:op=14
        · rw [beq_iff_eq.mpr h3];exact (decide_eq_true (.inr h3)).symm
        · rw [beq_eq_false_iff_ne.mpr h3];exact (decide_eq_false (by omega)).symm
  unfold r06_letters.f
  refine ev_if (fun h=>j0 _ ?_) (fun h=>ev_if (fun h2=>j0 _ ?_) (fun h2=>j0 _ ?_))
  · rw [beq_iff_eq.mpr h];exact (decide_eq_true (.inl h)).symm
  · rw [beq_iff_eq.mpr h2];exact (decide_eq_true (.inr (.inl h2))).symm
  · by_cases h3:op=15
    · rw [beq_iff_eq.mpr h3];exact (decide_eq_true (.inr (.inr h3))).symm
    · rw [beq_eq_false_iff_ne.mpr h3];exact (decide_eq_false (by omega)).symm
theorem lettersL_len (op:Int):(lettersL op).length≤8:=by
  have:=takes_two op
  unfold lettersL
  repeat' split
  all_goals first | (simp;omega) | simp
section
variable {tl : List Tk} {en n : Int}
def opR (st:RS3):OpR:=⟨st.1,noB,st.2.1,st.2.2⟩
def RvP (tl:List Tk) (en n:Int) (x:PE (OpR × List Tk)) (o:Int × ByteArray × List Int × List Int × Int × Int × Int × Int × Int):Prop:=match x with
  | .ok a=>o.1=a.1.n∧o.2.1=a.1.nm∧o.2.2.1=a.1.xa∧o.2.2.2.1=a.1.xt∧Rp tl en n (.ok a.2) o.2.2.2.2
  | .error q=>Rp tl en n (.error q) o.2.2.2.2
theorem rvp_of {α:Type} {x:PE (List Tk)} {y:List Tk→PE (α × List Tk)} {o:α × Int × Int × Int × Int × Int} (f:α→OpR) (h:Rv tl en n (x.bind y) o):RvP tl en n (x.bind fun ts=>(y ts).bind fun a=>.ok (f a.1,a.2)) ((f o.1).n,(f o.1).nm,(f o.1).xa,(f o.1).xt,o.2):=by
  cases x with
  | error q=>exact h
  | ok ts=>
    have h:Rv tl en n (y ts) o:=h
    show RvP tl en n ((y ts).bind fun a=>.ok (f a.1,a.2)) _
    revert h
    cases y ts with
    | error q=>exact fun h=>h
    | ok a=>
      rintro ⟨e,h⟩
      rw [e]
      exact ⟨rfl,rfl,rfl,rfl,h⟩
theorem rvp_six {x:PE (List Tk)} {y:List Tk→PE (RS3 × List Tk)} {o:RT6} (h:Rv6 tl en n (x.bind y) o):RvP tl en n (x.bind fun ts=>(y ts).bind fun a=>.ok (opR a.1,a.2)) (o.1,noB,o.2.1,o.2.2.1,o.2.2.2):=by
  cases x with
  | error q=>exact h
  | ok ts=>
    have h:Rv6 tl en n (y ts) o:=h
    show RvP tl en n ((y ts).bind fun a=>.ok (opR a.1,a.2)) _
    revert h
    cases y ts with
    | error q=>exact fun h=>h
    | ok a=>
      rintro ⟨e1,e2,e3,h⟩
      exact ⟨e1,rfl,e2,e3,h⟩
theorem rest_rv (hl:tl.length≤500000) (ht:∀ t∈tl,t.f0.size≤65536) (cs:List UInt8) (hc:cs.length≤8) {x:PE (List Tk)} {s:Int × Int × Int × Int × Int} (h:Rp tl en n x s):∃ o,Ev (fun k=>r06_Reader_rest.f k tl s.1 s.2.1 s.2.2.1 s.2.2.2.1 s.2.2.2.2 0 (mk cs)) o∧Rv6 tl en n (x.bind (stepsP en cs (0,[],[]))) o:=by
  obtain ⟨o,ho,hr⟩:=steps_rv hl ht cs (0,[],[]) x s h
  refine ⟨o,?_,hr⟩
  unfold r06_Reader_rest.f
  exact ev_pos (by rw [mk_size];exact hc) ho
theorem phi_rv (hl:tl.length≤500000) (ht:∀ t∈tl,t.f0.size≤65536) {x:PE (List Tk)} {s:Int × Int × Int × Int × Int} (h:Rp tl en n x s):∃ o,Ev (fun k=>r06_Reader_phi.f k tl s.1 s.2.1 s.2.2.1 s.2.2.2.1 s.2.2.2.2) o∧Rv3 tl en n (x.bind fun ts=>phiP en (ts.length+1) [] [] ts) o:=by
  cases x with
  | error q=>exact ⟨_,phi_dead [] [] h,h⟩
  | ok ts=>
    have e:=h.live
    have hd:ts.length≤tl.length:=by
      obtain ⟨h0,h1,h2,h3,h4⟩:=h
      rw [← h3,List.length_drop]
      omega
    rw [e] at h ⊢
    exact phi_live (by omega) ht (ts.length+1) [] [] ts s.1 (by omega) (by simp;omega) h
theorem shp_rv (hl:tl.length≤500000) {x:PE (List Tk)} {s:Int × Int × Int × Int × Int} (h:Rp tl en n x s):∃ o,Ev (fun k=>(r06_Reader_peek.f tl s.1 s.2.1 s.2.2.1 s.2.2.2.1 s.2.2.2.2 0).bind fun p=>(r03_Parse.f k p.1).bind fun q=>if q.2.2=0 then some ((0:Int),p.1,([]:List Int),([]:List Int),wrap64 (p.2.1+1),p.2.2.1,p.2.2.2.1,p.2.2.2.2.1,p.2.2.2.2.2) else (r06_Reader_fail.f tl p.2.1 p.2.2.1 p.2.2.2.1 p.2.2.2.2.1 p.2.2.2.2.2 q.2.2).bind fun z=>some (0,(⟨#[]⟩:ByteArray),[],[],z.1,z.2.1,z.2.2.1,z.2.2.2.1,z.2.2.2.2)) o∧
    RvP tl en n (x.bind fun ts=>if shpCode (pk0 ts)=0 then .ok (⟨0,pk0 ts,[],[]⟩,ts.tail) else failP en ts (shpCode (pk0 ts))) o:=by
  cases x with
  | error q=>
    obtain ⟨r,hr,er⟩:=rs_rparse_ev (⟨#[]⟩:ByteArray)
    have hne:r.2.2≠0:=by rw [er];exact shp_none
    refine ⟨((0:Int),(⟨#[]⟩:ByteArray),[],[],s),?_,h⟩
    simp only [peek_dead h.dead,Option.bind_some]
    exact Ev.bind hr (ev_neg hne (ev_some (fail_dead h.dead) (Ev.now _)))
  | ok ts=>
    have e:=h.live
    rw [e] at h ⊢
    generalize s.1=s1 at h ⊢
    obtain ⟨r,hr,er⟩:=rs_rparse_ev (pk0 ts)
    simp only [peek_live0 h,Option.bind_some]
    show ∃ o,_∧RvP tl en n (if shpCode (pk0 ts)=0 then .ok (⟨0,pk0 ts,[],[]⟩,ts.tail) else failP en ts (shpCode (pk0 ts))) o
    by_cases c:shpCode (pk0 ts)=0
    · rw [if_pos c]
      refine ⟨_,Ev.bind hr (ev_pos (by rw [er];exact c) (Ev.now _)),rfl,rfl,rfl,rfl,?_⟩
      cases ts with
      | nil=>exact absurd c shp_none
      | cons t us=>exact step_live (by omega) h
    · rw [if_neg c]
      obtain ⟨s',hs,hrs⟩:=fail_live h c
      exact ⟨_,Ev.bind hr (ev_neg (by rw [er];exact c) (ev_some (by rw [er];exact hs) (Ev.now _))),hrs⟩
theorem steps_rep (en:Int):∀ (m:Nat) (z:Int) (xa xt:List Int) (ts:List Tk),stepsP en (List.replicate m 118) (z,xa,xt) ts=(takeP en m xa ts).bind fun q=>.ok ((z,q.1,xt),q.2)
  | 0,_,_,_,_=>rfl
  | m+1,z,xa,xt,ts=>by
    rw [List.replicate_succ]
    show ((stepP en 118 (z,xa,xt) ts).bind fun a=>stepsP en (List.replicate m 118) a.1 a.2)=((valueP en ts).bind fun v=>takeP en m (xa++[v.1]) v.2).bind _
    rw [show stepP en 118 (z,xa,xt) ts=(valueP en ts).bind fun y=>.ok ((z,xa++[y.1],xt),y.2) from rfl]
    cases valueP en ts with
    | error q=>rfl
    | ok v=>exact steps_rep en m z (xa++[v.1]) xt v.2
theorem bind_ok_eta {α β γ:Type} {e:Except γ α} {f:α→Except γ β} {g:α→Except γ β} (h:∀ a,f a=g a):Except.bind e f=Except.bind e g:=by
  rw [show f=g from funext h]
theorem operands_rv (hl:tl.length≤500000) (ht:∀ t∈tl,t.f0.size≤65536) (op:Int) {x:PE (List Tk)} {s:Int × Int × Int × Int × Int} (h:Rp tl en n x s):∃ o,Ev (fun k=>r06_Reader_operands.f k tl s.1 s.2.1 s.2.2.1 s.2.2.2.1 s.2.2.2.2 op 0 (⟨#[]⟩:ByteArray)) o∧RvP tl en n (x.bind (operP en op)) o:=by
  unfold r06_Reader_operands.f
  by_cases c1:op=1
  · obtain ⟨o,ho,hr⟩:=number_rv (low:=-9223372036854775808) (high:=9223372036854775807) (by omega) ht h
    refine ⟨_,ev_pos c1 (Ev.bind ho (Ev.now _)),?_⟩
    rw [show operP en op=fun ts=>(numberP en (-9223372036854775808) 9223372036854775807 ts).bind fun a=>.ok ((⟨a.1,noB,[],[]⟩:OpR),a.2) from by funext ts;unfold operP;rw [if_pos c1]]
    exact rvp_of (fun z=>⟨z,noB,[],[]⟩) hr
  by_cases c2:op=29
  · obtain ⟨o,ho,hr⟩:=number_rv (low:=0) (high:=255) (by omega) ht h
    refine ⟨_,ev_neg c1 (ev_pos c2 (Ev.bind ho (Ev.now _))),?_⟩
    rw [show operP en op=fun ts=>(numberP en 0 255 ts).bind fun a=>.ok ((⟨a.1,noB,[],[]⟩:OpR),a.2) from by subst c2;funext ts;rfl]
    exact rvp_of (fun z=>⟨z,noB,[],[]⟩) hr
  by_cases c3:op=10
  · obtain ⟨o,ho,hr⟩:=shp_rv hl h
    refine ⟨o,ev_neg c1 (ev_neg c2 (ev_pos c3 ho)),?_⟩
    rw [show operP en op=fun ts=>if shpCode (pk0 ts)=0 then .ok (⟨0,pk0 ts,[],[]⟩,ts.tail) else failP en ts (shpCode (pk0 ts)) from by subst c3;funext ts;rfl]
    exact hr
  by_cases c4:op=20
  · obtain ⟨o,ho,hr⟩:=phi_rv hl ht h
    refine ⟨_,ev_neg c1 (ev_neg c2 (ev_neg c3 (ev_pos c4 (Ev.bind ho (Ev.now _))))),?_⟩
    rw [show operP en op=fun ts=>(phiP en (ts.length+1) [] [] ts).bind fun q=>.ok (⟨0,noB,q.1,q.2.1⟩,q.2.2) from by subst c4;funext ts;rfl]
    cases x with
    | error q=>exact hr
    | ok ts=>
      have hr:Rv3 tl en n (phiP en (ts.length+1) [] [] ts) o:=hr
      show RvP tl en n ((phiP en (ts.length+1) [] [] ts).bind fun q=>.ok (⟨0,noB,q.1,q.2.1⟩,q.2.2)) _
      revert hr
      cases phiP en (ts.length+1) [] [] ts with
      | error q=>exact fun h=>h
      | ok a=>exact fun h=>⟨rfl,rfl,h.1,h.2.1,h.2.2⟩
  by_cases c5:op=21
  · obtain ⟨o,ho,hr⟩:=call_rv hl ht h
    refine ⟨_,ev_neg c1 (ev_neg c2 (ev_neg c3 (ev_neg c4 (ev_pos c5 (Ev.bind ho (Ev.now _)))))),?_⟩
    rw [show operP en op=callP en from by subst c5;rfl]
    revert hr
    cases x.bind (callP en) with
    | error q=>exact fun h=>h
    | ok a=>exact fun h=>⟨h.1,h.2.1,h.2.2.1,h.2.2.2.1.symm,h.2.2.2.2⟩
  by_cases c6:op=28
  · rw [show operP en op=fun ts=>if valuesP ts=true then (valueP en ts).bind fun v=>.ok (⟨0,noB,[v.1],[]⟩,v.2) else .ok (⟨0,noB,[],[]⟩,ts) from by subst c6;funext ts;rfl]
    cases x with
    | error q=>
      refine ⟨_,ev_neg c1 (ev_neg c2 (ev_neg c3 (ev_neg c4 (ev_neg c5 (ev_pos c6 (ev_some (taken_dead h.dead) (ev_neg Bool.false_ne_true (Ev.now _)))))))),h⟩
    | ok ts=>
      have e:=h.live
      rw [e] at h ⊢
      generalize s.1=s1 at h ⊢
      show ∃ o,_∧RvP tl en n (if valuesP ts=true then (valueP en ts).bind fun v=>.ok (⟨0,noB,[v.1],[]⟩,v.2) else .ok (⟨0,noB,[],[]⟩,ts)) o
      by_cases ct:valuesP ts=true
      · obtain ⟨o,ho,hr⟩:=rest_rv hl ht [118] (by decide) h
        refine ⟨_,ev_neg c1 (ev_neg c2 (ev_neg c3 (ev_neg c4 (ev_neg c5 (ev_pos c6 (ev_some (taken_live h) (ev_pos ct (Ev.bind ho (Ev.now _))))))))),?_⟩
        rw [if_pos ct]
        have hr:=rvp_six hr
        have e2:(Except.bind (.ok ts:PE (List Tk)) fun ts=>(stepsP en [118] (0,[],[]) ts).bind fun a=>.ok (opR a.1,a.2))=(valueP en ts).bind fun v=>.ok (⟨0,noB,[v.1],[]⟩,v.2):=by
          show ((((valueP en ts).bind fun y=>Except.ok (((0:Int),([]:List Int)++[y.1],([]:List Int)),y.2)).bind fun a=>(.ok (a.1,a.2):PE (RS3 × List Tk))).bind fun a=>.ok (opR a.1,a.2))=_
          cases valueP en ts<;>rfl
        rw [e2] at hr
        exact hr
      · refine ⟨_,ev_neg c1 (ev_neg c2 (ev_neg c3 (ev_neg c4 (ev_neg c5 (ev_pos c6 (ev_some (taken_live h) (ev_neg ct (Ev.now _)))))))),?_⟩
        rw [if_neg ct]
        exact ⟨rfl,rfl,rfl,rfl,h⟩
  · obtain ⟨o,ho,hr⟩:=rest_rv hl ht (lettersL op) (lettersL_len op) h
    refine ⟨_,ev_neg c1 (ev_neg c2 (ev_neg c3 (ev_neg c4 (ev_neg c5 (ev_neg c6 (Ev.bind (letters_ev op) (Ev.bind ho (Ev.now _)))))))),?_⟩
    have hr:=rvp_six hr
    have e2:(fun ts=>(stepsP en (lettersL op) (0,[],[]) ts).bind fun a=>Except.ok (opR a.1,a.2))=operP en op:=by
      funext ts
      unfold lettersL operP
      rw [if_neg c1,if_neg c3]
      by_cases d1:op=11∨op=12∨op=15
      · rw [if_pos d1,if_pos d1]
        simp only [stepsP,stepP]
        show (((valueP en ts).bind fun y=>Except.ok (((0:Int),([]:List Int)++[y.1],([]:List Int)),y.2)).bind fun a=>(((numberP en 0 15 a.2).bind fun y=>Except.ok ((y.1,a.1.2.1,a.1.2.2),y.2)).bind fun a=>(.ok (a.1,a.2):PE (RS3 × List Tk)))).bind (fun a=>Except.ok (opR a.1,a.2))=_
        cases valueP en ts with
        | error q=>rfl
        | ok v=>
          show (((numberP en 0 15 v.2).bind fun y=>Except.ok ((y.1,([]:List Int)++[v.1],([]:List Int)),y.2)).bind fun a=>(.ok (a.1,a.2):PE (RS3 × List Tk))).bind (fun a=>Except.ok (opR a.1,a.2))=(numberP en 0 15 v.2).bind _
          cases numberP en 0 15 v.2<;>rfl
      rw [if_neg d1,if_neg d1]
      by_cases d2:op=13∨op=14
      · rw [if_pos d2,if_pos d2]
        show (((valueP en ts).bind fun y=>Except.ok (((0:Int),([]:List Int)++[y.1],([]:List Int)),y.2)).bind fun a=>(((numberP en 0 15 a.2).bind fun y=>Except.ok ((y.1,a.1.2.1,a.1.2.2),y.2)).bind fun a=>(((valueP en a.2).bind fun y=>Except.ok ((a.1.1,a.1.2.1++[y.1],a.1.2.2),y.2)).bind fun a=>(.ok (a.1,a.2):PE (RS3 × List Tk))))).bind (fun a=>Except.ok (opR a.1,a.2))=_
        cases valueP en ts with
        | error q=>rfl
        | ok v=>
          show (((numberP en 0 15 v.2).bind fun y=>Except.ok ((y.1,([]:List Int)++[v.1],([]:List Int)),y.2)).bind fun a=>(((valueP en a.2).bind fun y=>Except.ok ((a.1.1,a.1.2.1++[y.1],a.1.2.2),y.2)).bind fun a=>(.ok (a.1,a.2):PE (RS3 × List Tk)))).bind (fun a=>Except.ok (opR a.1,a.2))=(numberP en 0 15 v.2).bind _
          cases numberP en 0 15 v.2 with
          | error q=>rfl
          | ok u=>
            show (((valueP en u.2).bind fun y=>Except.ok ((u.1,[v.1]++[y.1],([]:List Int)),y.2)).bind fun a=>(.ok (a.1,a.2):PE (RS3 × List Tk))).bind (fun a=>Except.ok (opR a.1,a.2))=(valueP en u.2).bind _
            cases valueP en u.2<;>rfl
      rw [if_neg d2,if_neg d2,if_neg c4,if_neg c5]
      by_cases d3:op=23
      · rw [if_pos d3,if_pos d3]
        show (((numberP en 0 1048576 ts).bind fun y=>Except.ok ((y.1,([]:List Int),([]:List Int)),y.2)).bind fun a=>(.ok (a.1,a.2):PE (RS3 × List Tk))).bind (fun a=>Except.ok (opR a.1,a.2))=_
        cases numberP en 0 1048576 ts<;>rfl
      rw [if_neg d3,if_neg d3]
      by_cases d4:op=24
      · rw [if_pos d4,if_pos d4]
        show (((valueP en ts).bind fun y=>Except.ok (((0:Int),([]:List Int)++[y.1],([]:List Int)),y.2)).bind fun a=>(((numberP en 0 1048576 a.2).bind fun y=>Except.ok ((y.1,a.1.2.1,a.1.2.2),y.2)).bind fun a=>(.ok (a.1,a.2):PE (RS3 × List Tk)))).bind (fun a=>Except.ok (opR a.1,a.2))=_
        cases valueP en ts with
        | error q=>rfl
        | ok v=>
          show (((numberP en 0 1048576 v.2).bind fun y=>Except.ok ((y.1,([]:List Int)++[v.1],([]:List Int)),y.2)).bind fun a=>(.ok (a.1,a.2):PE (RS3 × List Tk))).bind (fun a=>Except.ok (opR a.1,a.2))=(numberP en 0 1048576 v.2).bind _
          cases numberP en 0 1048576 v.2<;>rfl
      rw [if_neg d4,if_neg d4]
      by_cases d5:op=26
      · rw [if_pos d5,if_pos d5]
        show (((labelP en ts).bind fun y=>Except.ok (((0:Int),([]:List Int),([]:List Int)++[y.1]),y.2)).bind fun a=>(.ok (a.1,a.2):PE (RS3 × List Tk))).bind (fun a=>Except.ok (opR a.1,a.2))=_
        cases labelP en ts<;>rfl
      rw [if_neg d5,if_neg d5]
      by_cases d6:op=27
      · rw [if_pos d6,if_pos d6]
        show (((valueP en ts).bind fun y=>Except.ok (((0:Int),([]:List Int)++[y.1],([]:List Int)),y.2)).bind fun a=>(((labelP en a.2).bind fun y=>Except.ok ((a.1.1,a.1.2.1,a.1.2.2++[y.1]),y.2)).bind fun a=>(((labelP en a.2).bind fun y=>Except.ok ((a.1.1,a.1.2.1,a.1.2.2++[y.1]),y.2)).bind fun a=>(.ok (a.1,a.2):PE (RS3 × List Tk))))).bind (fun a=>Except.ok (opR a.1,a.2))=_
        cases valueP en ts with
        | error q=>rfl
        | ok v=>
          show (((labelP en v.2).bind fun y=>Except.ok (((0:Int),[v.1],([]:List Int)++[y.1]),y.2)).bind fun a=>(((labelP en a.2).bind fun y=>Except.ok ((a.1.1,a.1.2.1,a.1.2.2++[y.1]),y.2)).bind fun a=>(.ok (a.1,a.2):PE (RS3 × List Tk)))).bind (fun a=>Except.ok (opR a.1,a.2))=(labelP en v.2).bind _
          cases labelP en v.2 with
          | error q=>rfl
          | ok u=>
            show (((labelP en u.2).bind fun y=>Except.ok (((0:Int),[v.1],[u.1]++[y.1]),y.2)).bind fun a=>(.ok (a.1,a.2):PE (RS3 × List Tk))).bind (fun a=>Except.ok (opR a.1,a.2))=(labelP en u.2).bind _
            cases labelP en u.2<;>rfl
      rw [if_neg d6,if_neg d6,if_neg c6,if_neg c2,steps_rep]
      cases takeP en (takesI op).length [] ts<;>rfl
    rw [e2] at hr
    exact hr
end
end Go.Proofs.Ytkjdblbgmomieaa.PSh
end
