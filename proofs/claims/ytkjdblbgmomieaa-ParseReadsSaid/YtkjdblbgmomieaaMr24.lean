import Derived.Test.YtkjdblbgmomieaaMr23
import Derived.Test.YtkjdblbgmomieaaMr15
import Derived.Test.YtkjdblbgmomieaaMr10
import Derived.Test.YtkjdblbgmomieaaMr13
import Derived.Test.YtkjdblbgmomieaaMr9
-- from YtkjdblbgmomieaaHRInstr
section
namespace Go.Proofs.Ytkjdblbgmomieaa.PSh
set_option maxHeartbeats 8000000
set_option maxRecDepth 100000
open Go.RowKit Go.Proofs.YtkjdblbgmomieaaW.PrintWords Go.Proofs.YtkjdblbgmomieaaW.PrintLast Go.Proofs.YtkjdblbgmomieaaW.PrintMore Go.Proofs.Ytkjdblbgmomieaa.Str
set_option linter.unusedVariables false
set_option linter.unusedSimpArgs false
def r06_Reader_at (tl:List (S101)) (s1 s2:Int):Option Int:=if s1<(tl.length:Int) then (if 0≤s1 then some (rd_T101 tl s1).f1 else none) else some s2
def r06_Reader_instr.f (k:Nat) (tl:List (S101)) (s1 s2 s3 s4 s5:Int):Option (Int × Int × Int × Int × List Int × List Int × ByteArray × Int × Int × Int × Int × Int × Int):=
  (r06_Reader_at tl s1 s2).bind fun at0=>(r06_Reader_peek.f tl s1 s2 s3 s4 s5 1).bind fun p=>(if p.1.toList=([61]:List UInt8) then (r06_Reader_value.f k tl p.2.1 p.2.2.1 p.2.2.2.1 p.2.2.2.2.1 p.2.2.2.2.2).bind fun v=>(r06_Reader_want.f tl v.2.1 v.2.2.1 v.2.2.2.1 v.2.2.2.2.1 v.2.2.2.2.2 (⟨#[61]⟩:ByteArray)).bind fun x=>some (v.1,x.1,x.2.1,x.2.2.1,x.2.2.2.1,x.2.2.2.2) else some (-1,p.2.1,p.2.2.1,p.2.2.2.1,p.2.2.2.2.1,p.2.2.2.2.2)).bind fun x=>
    (r06_Reader_peek.f tl x.2.1 x.2.2.1 x.2.2.2.1 x.2.2.2.2.1 x.2.2.2.2.2 0).bind fun q=>(r05_Find.f k q.1).bind fun o=>if o.1=0 then (r06_Reader_fail.f tl q.2.1 q.2.2.1 q.2.2.2.1 q.2.2.2.2.1 q.2.2.2.2.2 2).bind fun z=>some (o.1,x.1,0,o.2,[],[],(⟨#[]⟩:ByteArray),at0,z.1,z.2.1,z.2.2.1,z.2.2.2.1,z.2.2.2.2)
      else (r05_Makes.f k o.1 x.1 0 o.2 [] [] (⟨#[]⟩:ByteArray) at0).bind fun m=>if (m !=0) !=decide (x.1≥0) then (r06_Reader_fail.f tl q.2.1 q.2.2.1 q.2.2.2.1 q.2.2.2.2.1 q.2.2.2.2.2 8).bind fun z=>some (o.1,x.1,0,o.2,[],[],(⟨#[]⟩:ByteArray),at0,z.1,z.2.1,z.2.2.1,z.2.2.2.1,z.2.2.2.2)
        else (r06_Reader_operands.f k tl (wrap64 (q.2.1+1)) q.2.2.1 q.2.2.2.1 q.2.2.2.2.1 q.2.2.2.2.2 o.1 0 (⟨#[]⟩:ByteArray)).bind fun r=>some (o.1,x.1,r.1,o.2,r.2.2.1,r.2.2.2.1,r.2.1,at0,r.2.2.2.2.1,r.2.2.2.2.2.1,r.2.2.2.2.2.2.1,r.2.2.2.2.2.2.2.1,r.2.2.2.2.2.2.2.2)
theorem makes_nil (k:Nat) (o1 x0 o2 at0 m:Int) (W:World) (h:r05_Makes.f k o1 x0 0 o2 [] [] (⟨#[]⟩:ByteArray) at0=some m):Calls Try.prog 25 #[.agg #[.int .i64 o1,.int .i64 x0,.int .i64 0,.int .i64 o2,.slice none 0 0,.slice none 0 0,.string (⟨#[]⟩:ByteArray),.int .i64 at0]] W fun e w'=>e=.returned (.int .i64 m)∧Below W.heap.size W w':=
  r05_Makes.calls k o1 x0 0 o2 none 0 [] none 0 [] (⟨#[]⟩:ByteArray) at0 m W (Kd.C_nil _ _) (by simp) (Kd.C_nil _ _) (by simp) h
theorem r06_Reader_instr.calls (k g:Nat) (tl:List (S101)) (s1 s2 s3 s4 s5:Int) (r1 r2 r3 r4:Int) (r5 r6:List Int) (r7:ByteArray) (r8 r9 r10 r11 r12 r13:Int) (w0 w:World) (hI:IsS89 w0 w g tl s1 s2 s3 s4 s5) (hB:Below w0.heap.size w0 w) (h:r06_Reader_instr.f k tl s1 s2 s3 s4 s5=some (r1,r2,r3,r4,r5,r6,r7,r8,r9,r10,r11,r12,r13)):
    Calls Try.prog 96 #[.pointer (some ⟨g,0,none⟩)] w fun e w'=>∃ v4_ v5_:Value,e=.returned (.agg #[.int .i64 r1,.int .i64 r2,.int .i64 r3,.int .i64 r4,v4_,v5_,.string r7,.int .i64 r8])∧Kd.R (Kd.int .i64) 3 w' w.heap.size (fun _=>True) v4_ r5∧Kd.R (Kd.int .i64) 3 w' w.heap.size (fun _=>True) v5_ r6∧IsS89 w0 w' g tl r9 r10 r11 r12 r13∧Below w0.heap.size w0 w'∧KeepBut w w' g none:=by
  have hu39:=Try.underlying39
  unfold r06_Reader_instr.f at h
  obtain ⟨at0,hat,h⟩:=Option.bind_eq_some_iff.mp h
  obtain ⟨⟨p0,p1,p2,p3,p4,p5⟩,hp,h⟩:=Option.bind_eq_some_iff.mp h
  obtain ⟨⟨x0,x1,x2,x3,x4,x5⟩,hx,h⟩:=Option.bind_eq_some_iff.mp h
  obtain ⟨⟨q0,q1,q2,q3,q4,q5⟩,hq,h⟩:=Option.bind_eq_some_iff.mp h
  obtain ⟨⟨o1,o2⟩,ho,h⟩:=Option.bind_eq_some_iff.mp h
  have HAT:=aM hat
  have HP:=aM hp
  have HXX:=aM hx
  have HQ:=aM hq
  have HO:=aM ho
  have HF:=aM h
  have HI:=aM hI
  have HB:=aM hB
  have HL:=aM hI.lt
  clear hat hp hx hq ho h hI hB
  go_enter Try.func96,Try.ntmps96
  have hz:=blk_new w (.cells #[.int .i64 0,.int .i64 0,.int .i64 0,.int .i64 0,.slice none 0 0,.slice none 0 0,.string ⟨#[]⟩,.int .i64 0] 39)
  have hi0:=HI.out.alloc (.cells #[.int .i64 0,.int .i64 0,.int .i64 0,.int .i64 0,.slice none 0 0,.slice none 0 0,.string ⟨#[]⟩,.int .i64 0] 39)
  have hb0:=below_alloc HB.out (.cells #[.int .i64 0,.int .i64 0,.int .i64 0,.int .i64 0,.slice none 0 0,.slice none 0 0,.string ⟨#[]⟩,.int .i64 0] 39)
  have hk0:=keep_alloc (g:=g) (KeepBut.refl w g none) (.cells #[.int .i64 0,.int .i64 0,.int .i64 0,.int .i64 0,.slice none 0 0,.slice none 0 0,.string ⟨#[]⟩,.int .i64 0] 39)
  go_upto_region 1 with (fail)
  generalize w.alloc (.cells #[.int .i64 0,.int .i64 0,.int .i64 0,.int .i64 0,.slice none 0 0,.slice none 0 0,.string ⟨#[]⟩,.int .i64 0] 39)=W0 at hz hi0 hb0 hk0 ⊢
  have HX:=aM (show IXAt g w.heap.size W0.heap.size #[.int .i64 0,.int .i64 0,.int .i64 0,.int .i64 0,.slice none 0 0,.slice none 0 0,.string ⟨#[]⟩,.int .i64 0] tl ⟨0,-1,0,0,[],[],(⟨#[]⟩:ByteArray),s2⟩ (.slice none 0 0) (.slice none 0 0) s1 s2 s3 s4 s5 w0 w (W0.alloc (.cells #[.int .i64 0,.int .i64 (-1),.int .i64 0,.int .i64 0,.slice none 0 0,.slice none 0 0,.string ⟨#[]⟩,.int .i64 s2] 39)) from
    ⟨hi0.alloc _,below_alloc hb0 _,keep_alloc hk0 _,HB.out.size,HL.out,Nat.le_refl _,blk_lt hz,blk_alloc hz _,blk_new _ _,TwoR.nil _ _⟩)
  obtain ⟨A0,c0,hG,hg_,hS_⟩:=hi0
  have hc2:=cellS89_2 hG
  clear hz hb0 hk0 hG hg_ hS_
  generalize hbx:W0.heap.size=bx_ at HX
  go_upto_region 2 with (fail)
  generalize W0.alloc (.cells #[.int .i64 0,.int .i64 (-1),.int .i64 0,.int .i64 0,.slice none 0 0,.slice none 0 0,.string ⟨#[]⟩,.int .i64 s2] 39)=W1 at HX ⊢
  clear hc2
  obtain ⟨A0,c0,hG,hg_,hS_⟩:=HX.out.i
  have hc0:=cellS89_0 hG
  have hc1:=cellS89_1 hG
  clear hG hg_
  have HS_:=aM hS_
  clear hS_
  go_quiet (fail)
  go_upto_if 20 with (fail)
  (try simp only [Act.put,qA,qB,qC])
  go_cut [] (fun wc=>Aside0 (IXAt g w.heap.size bx_ #[.int .i64 0,.int .i64 0,.int .i64 0,.int .i64 0,.slice none 0 0,.slice none 0 0,.string ⟨#[]⟩,.int .i64 0] tl ⟨0,-1,0,0,[],[],(⟨#[]⟩:ByteArray),at0⟩ (.slice none 0 0) (.slice none 0 0) s1 s2 s3 s4 s5 w0 w wc))
  case first=>
    have hat:=HAT.out
    unfold r06_Reader_at at hat
    have c7_:=HX.out.at1 7
    have f7_:=blk_frozen HX.out.box 7
    simp only [iObj] at c7_
    by_cases c1:s1<(tl.length:Int)
    · rw [if_pos c1] at hat
      have d1:decide (s1<(tl.length:Int))=true:=decide_eq_true c1
      by_cases c2:0≤s1
      rotate_left
      · rw [if_neg c2] at hat
        cases hat
      rw [if_pos c2] at hat
      obtain rfl:=Option.some.inj hat
      clear hat
      obtain ⟨ad,e_,hx0,hx1⟩:=at_T101 HS_.out s1 c2 c1
      cases e_
      replace hx1:=pw_cell_below HX.out.b hx1
      have p2:=eq_true c2
      have q2_:=eq_true c1
      clear c1 c2 hx0
      rw [d1]
      go_upto_region 3 with (fail)
      refine start_ (n:=13) (S:=fun w'=>w'.cell? ⟨g,0,none⟩=some (.slice (some ad) tl.length c0)∧w'.cell? ⟨g,1,none⟩=some (.int .i64 s1)∧w'.cell? ⟨(ad.add (s1.toNat * 2)).block,(ad.add (s1.toNat * 2)).off+1,none⟩=some (.int .i64 (rd_T101 tl s1).f1)) (ds:=[12]) #[false,false,false,false,false,false,false,false,false,false,false,false,false] (by kernel_rfl) rfl rfl ⟨hc0,hc1,hx1⟩ (fun hHeld=>?_)
      refine pure_ (i:=0) (N:=some 21) (v:=?_) (a':=?_) #[true,false,false,false,false,false,false,false,false,false,false,false,false] rfl rfl (by kernel_rfl) (fun _ _ _ h=>h) (Or.inl ⟨by rfl,?_⟩) ?_ ?_
      rotate_left
      · intro w'
        go_simp
        with_reducible rfl
      rotate_left
      · simp only [Act.put,qA,qB,qC,i64_w,i32_w]
        rfl
      refine pure_ (i:=1) (N:=some 22) (v:=?_) (a':=?_) #[true,true,false,false,false,false,false,false,false,false,false,false,false] rfl rfl (by kernel_rfl) (fun _ _ _ h=>h) (Or.inl ⟨by rfl,?_⟩) ?_ ?_
      rotate_left
      · intro w'
        go_simp
        with_reducible rfl
      rotate_left
      · simp only [Act.put,qA,qB,qC,i64_w,i32_w]
        rfl
      refine pure_ (i:=2) (N:=some 23) (v:=?_) (a':=?_) #[true,true,true,false,false,false,false,false,false,false,false,false,false] rfl rfl (by kernel_rfl) (fun _ _ _ h=>h) (Or.inl ⟨by rfl,?_⟩) ?_ ?_
      rotate_left
      · intro w'
        go_simp
        with_reducible rfl
      rotate_left
      · simp only [Act.put,qA,qB,qC,i64_w,i32_w]
        rfl
      refine pure_ (i:=4) (N:=some 25) (v:=?_) (a':=?_) #[true,true,true,false,true,false,false,false,false,false,false,false,false] rfl rfl (by kernel_rfl) (fun _ _ _ h=>h) (Or.inl ⟨by rfl,?_⟩) ?_ ?_
      rotate_left
      · intro w'
        go_simp
        with_reducible rfl
      rotate_left
      · simp only [Act.put,qA,qB,qC,i64_w,i32_w]
        rfl
      refine pure_ (i:=5) (N:=some 26) (v:=?_) (a':=?_) #[true,true,true,false,true,true,false,false,false,false,false,false,false] rfl rfl (by kernel_rfl) (fun _ _ _ h=>h) (Or.inl ⟨by rfl,?_⟩) ?_ ?_
      rotate_left
      · intro w'
        go_simp
        with_reducible rfl
      rotate_left
      · simp only [Act.put,qA,qB,qC,i64_w,i32_w]
        rfl
      refine pure_ (i:=6) (N:=some 27) (v:=?_) (a':=?_) #[true,true,true,false,true,true,true,false,false,false,false,false,false] rfl rfl (by kernel_rfl) (fun _ _ _ h=>h) (Or.inl ⟨by rfl,?_⟩) ?_ ?_
      rotate_left
      · intro w'
        go_simp
        with_reducible rfl
      rotate_left
      · simp only [Act.put,qA,qB,qC,i64_w,i32_w]
        rfl
      refine take_ (i:=3) (N:=some 24) (v:=?_) (a':=?_) #[true,true,true,true,true,true,true,false,false,false,false,false,false] rfl rfl (by kernel_rfl) (fun _ _ _ h=>h) (Or.inl ⟨by rfl,?_⟩) hHeld ?_ ?_
      rotate_left
      · rintro w' ⟨s0,s1,s2⟩
        go_simp
        with_reducible rfl
      rotate_left
      · simp only [Act.put,qA,qB,qC,i64_w,i32_w]
        rfl
      refine take_ (i:=7) (N:=some 28) (v:=?_) (a':=?_) #[true,true,true,true,true,true,true,true,false,false,false,false,false] rfl rfl (by kernel_rfl) (fun _ _ _ h=>h) (Or.inl ⟨by rfl,?_⟩) hHeld ?_ ?_
      rotate_left
      · rintro w' ⟨s0,s1,s2⟩
        go_simp
        with_reducible rfl
      rotate_left
      · simp only [Act.put,qA,qB,qC,i64_w,i32_w]
        rfl
      refine pure_ (i:=8) (N:=some 29) (v:=?_) (a':=?_) #[true,true,true,true,true,true,true,true,true,false,false,false,false] rfl rfl (by kernel_rfl) (fun _ _ _ h=>h) (Or.inl ⟨by rfl,?_⟩) ?_ ?_
      rotate_left
      · intro w'
        go_simp
        with_reducible rfl
      rotate_left
      · simp only [Act.put,qA,qB,qC,i64_w,i32_w]
        rfl
      refine pure_ (i:=9) (N:=some 30) (v:=?_) (a':=?_) #[true,true,true,true,true,true,true,true,true,true,false,false,false] rfl rfl (by kernel_rfl) (fun _ _ _ h=>h) (Or.inl ⟨by rfl,?_⟩) ?_ ?_
      rotate_left
      · intro w'
        go_simp
        with_reducible rfl
      rotate_left
      · simp only [Act.put,qA,qB,qC,i64_w,i32_w]
        rfl
      refine take_ (i:=10) (N:=some 31) (v:=?_) (a':=?_) #[true,true,true,true,true,true,true,true,true,true,true,false,false] rfl rfl (by kernel_rfl) (fun _ _ _ h=>h) (Or.inl ⟨by rfl,?_⟩) hHeld ?_ ?_
      rotate_left
      · rintro w' ⟨s0,s1,s2⟩
        go_simp
        with_reducible rfl
      rotate_left
      · simp only [Act.put,qA,qB,qC,i64_w,i32_w]
        rfl
      refine pure_ (i:=11) (N:=some 32) (v:=?_) (a':=?_) #[true,true,true,true,true,true,true,true,true,true,true,true,false] rfl rfl (by kernel_rfl) (fun _ _ _ h=>h) (Or.inl ⟨by rfl,?_⟩) ?_ ?_
      rotate_left
      · intro w'
        go_simp
        with_reducible rfl
      rotate_left
      · simp only [Act.put,qA,qB,qC,i64_w,i32_w]
        rfl
      refine last_ (i:=12) (N:=none) #[true,true,true,true,true,true,true,true,true,true,true,true,true] rfl rfl (by kernel_rfl) (by decide) (fun K hK=>?_)
      refine skip_ (w1:=?_) (by rfl) rfl ?_ ?_
      rotate_left
      · go_simp
        rfl
      refine hK.out _ _ ?_
      clear hK K
      refine done_ (by kernel_rfl) ?_
      (try go_wp2)
      go_meet
      exact ⟨IXAt.put (IXAt.below HX.out (by repeat (first | apply pw_below_drewN | apply below_drew1 | exact Below.refl _ _))) _ 7 _ rfl rfl rfl⟩
    · rw [if_neg c1] at hat
      have d1:decide (s1<(tl.length:Int))=false:=decide_eq_false c1
      obtain rfl:=Option.some.inj hat
      clear c1 hat
      rw [d1]
      go_wp2
      go_meet
      exact ⟨IXAt.below HX.out (by repeat (first | apply pw_below_drewN | apply below_drew1 | exact Below.refl _ _))⟩
  case rest=>
    clear HX hc0 hc1 HS_ HAT
    have HX:=hcut
    clear hcut
    go_wp2_with fail
    refine (r06_Reader_peek.calls g tl _ _ _ _ _ 1 _ _ _ _ _ _ w0 _ HX.out.i HX.out.b HP.out).mono ?_
    rintro e w1 ⟨rfl,hi_,hb_,hk_⟩
    have HX1:=aM (HX.out.call hi_ hb_ hk_)
    clear hi_ hb_ hk_
    clear HX
    go_upto_if 35 with (fail)
    (try simp only [Act.put,qA,qB,qC])
    go_cut [] (fun wc=>Aside0 (IXAt g w.heap.size bx_ #[.int .i64 0,.int .i64 0,.int .i64 0,.int .i64 0,.slice none 0 0,.slice none 0 0,.string ⟨#[]⟩,.int .i64 0] tl ⟨0,x0,0,0,[],[],(⟨#[]⟩:ByteArray),at0⟩ (.slice none 0 0) (.slice none 0 0) x1 x2 x3 x4 x5 w0 w wc))
    case first=>
      have hx:=HXX.out
      by_cases c1:p0.toList=([61]:List UInt8)
      · rw [if_pos c1] at hx
        have d1:(p0.toList==([61]:List UInt8))=true:=beq_iff_eq.mpr c1
        rw [d1]
        clear c1
        obtain ⟨⟨v0,v1,v2,v3,v4,v5⟩,hv,hx⟩:=Option.bind_eq_some_iff.mp hx
        obtain ⟨⟨y1,y2,y3,y4,y5⟩,hy,hx⟩:=Option.bind_eq_some_iff.mp hx
        replace hx:=Option.some.inj hx
        simp only [Prod.mk.injEq] at hx
        obtain ⟨rfl,rfl,rfl,rfl,rfl,rfl⟩:=hx
        have HV:=aM hv
        have HY:=aM hy
        clear hv hy
        go_wp2_with fail
        refine (r06_Reader_value.calls k g tl _ _ _ _ _ _ _ _ _ _ _ w0 _ HX1.out.i HX1.out.b HV.out).mono ?_
        rintro e w2 ⟨rfl,hi_,hb_,hk_⟩
        have HX2:=aM (HX1.out.call hi_ hb_ hk_)
        clear hi_ hb_ hk_
        have c1_:=HX2.out.at1 1
        have f1_:=blk_frozen HX2.out.box 1
        simp only [iObj] at c1_
        have HX3:=aM (HX2.out.put ⟨0,v0,0,0,[],[],(⟨#[]⟩:ByteArray),at0⟩ 1 (.int .i64 v0) rfl rfl rfl)
        clear HX2
        go_upto_region 6 with (fail)
        generalize w2.setCell ⟨bx_,1,none⟩ (.int .i64 v0)=W3 at HX3 ⊢
        clear c1_ f1_
        go_wp2_with fail
        refine (r06_Reader_want.calls g tl _ _ _ _ _ (⟨#[61]⟩:ByteArray) _ _ _ _ _ w0 _ HX3.out.i HX3.out.b HY.out).mono ?_
        rintro e w4 ⟨rfl,hi_,hb_,hk_⟩
        have HX4:=aM (HX3.out.call hi_ hb_ hk_)
        clear hi_ hb_ hk_
        go_wp2_with fail
        go_meet
        exact HX4
      · rw [if_neg c1] at hx
        have d1:(p0.toList==([61]:List UInt8))=false:=beq_eq_false_iff_ne.mpr c1
        rw [d1]
        clear c1
        replace hx:=Option.some.inj hx
        simp only [Prod.mk.injEq] at hx
        obtain ⟨rfl,rfl,rfl,rfl,rfl,rfl⟩:=hx
        go_wp2_with fail
        go_meet
        exact HX1
    case rest=>
      clear HX1 HXX
      have HX:=hcut
      clear hcut
      go_wp2_with fail
      refine (r06_Reader_peek.calls g tl _ _ _ _ _ 0 _ _ _ _ _ _ w0 _ HX.out.i HX.out.b HQ.out).mono ?_
      rintro e w1 ⟨rfl,hi_,hb_,hk_⟩
      have HX1:=aM (HX.out.call hi_ hb_ hk_)
      clear hi_ hb_ hk_
      clear HX
      go_wp2_with fail
      refine (r05_Find.calls k q0 o1 o2 _ HO.out).mono ?_
      rintro e w2 ⟨rfl,hb_⟩
      have HX2:=aM (HX1.out.below hb_)
      clear hb_ HX1
      have c0_:=HX2.out.at1 0
      have f0_:=blk_frozen HX2.out.box 0
      simp only [iObj] at c0_
      have HX3:=aM (HX2.out.put ⟨o1,x0,0,0,[],[],(⟨#[]⟩:ByteArray),at0⟩ 0 (.int .i64 o1) rfl rfl rfl)
      go_upto_region 9 with (fail)
      generalize w2.setCell ⟨bx_,0,none⟩ (.int .i64 o1)=W3 at HX3 ⊢
      clear c0_ f0_ HX2
      have c3_:=HX3.out.at1 3
      have f3_:=blk_frozen HX3.out.box 3
      simp only [iObj] at c3_
      have HX4:=aM (HX3.out.put ⟨o1,x0,0,o2,[],[],(⟨#[]⟩:ByteArray),at0⟩ 3 (.int .i64 o2) rfl rfl rfl)
      go_upto_region 10 with (fail)
      generalize W3.setCell ⟨bx_,3,none⟩ (.int .i64 o2)=W4 at HX4 ⊢
      clear c3_ f3_ HX3
      have h:=HF.out
      clear HF
      by_cases ko:o1=0
      · rw [if_pos ko] at h
        have go_:(o1==0)=true:=beq_iff_eq.mpr ko
        clear ko
        obtain ⟨⟨f1,f2,f3,f4,f5⟩,hf,h⟩:=Option.bind_eq_some_iff.mp h
        have HFL:=aM hf
        clear hf
        replace h:=Option.some.inj h
        simp only [Prod.mk.injEq] at h
        obtain ⟨rfl,rfl,rfl,rfl,rfl,rfl,rfl,rfl,rfl,rfl,rfl,rfl,rfl⟩:=h
        go_wp2_with fail
        refine (r06_Reader_fail.calls g tl _ _ _ _ _ 2 _ _ _ _ _ w0 _ HX4.out.i HX4.out.b HFL.out).mono ?_
        rintro e w5 ⟨rfl,hi_,hb_,hk_⟩
        have HX5:=aM (HX4.out.call hi_ hb_ hk_)
        clear hi_ hb_ hk_ HX4
        go_upto_region 12 with (fail)
        have c_0:=HX5.out.at1 0
        have f_0:=blk_frozen HX5.out.box 0
        have d_0:=blk_cell HX5.out.zero 0
        have e_0:=blk_frozen HX5.out.zero 0
        have c_1:=HX5.out.at1 1
        have f_1:=blk_frozen HX5.out.box 1
        have d_1:=blk_cell HX5.out.zero 1
        have e_1:=blk_frozen HX5.out.zero 1
        have c_2:=HX5.out.at1 2
        have f_2:=blk_frozen HX5.out.box 2
        have d_2:=blk_cell HX5.out.zero 2
        have e_2:=blk_frozen HX5.out.zero 2
        have c_3:=HX5.out.at1 3
        have f_3:=blk_frozen HX5.out.box 3
        have d_3:=blk_cell HX5.out.zero 3
        have e_3:=blk_frozen HX5.out.zero 3
        have c_4:=HX5.out.at1 4
        have f_4:=blk_frozen HX5.out.box 4
        have d_4:=blk_cell HX5.out.zero 4
        have e_4:=blk_frozen HX5.out.zero 4
        have c_5:=HX5.out.at1 5
        have f_5:=blk_frozen HX5.out.box 5
        have d_5:=blk_cell HX5.out.zero 5
        have e_5:=blk_frozen HX5.out.zero 5
        have c_6:=HX5.out.at1 6
        have f_6:=blk_frozen HX5.out.box 6
        have d_6:=blk_cell HX5.out.zero 6
        have e_6:=blk_frozen HX5.out.zero 6
        have c_7:=HX5.out.at1 7
        have f_7:=blk_frozen HX5.out.box 7
        have d_7:=blk_cell HX5.out.zero 7
        have e_7:=blk_frozen HX5.out.zero 7
        have HE:=aM (HX5.out.fin HX5.out.two (.int .i64 (⟨o1,x0,0,o2,[],[],(⟨#[]⟩:ByteArray),at0⟩:S39).f0) (.int .i64 (⟨o1,x0,0,o2,[],[],(⟨#[]⟩:ByteArray),at0⟩:S39).f1) (.int .i64 (⟨o1,x0,0,o2,[],[],(⟨#[]⟩:ByteArray),at0⟩:S39).f2) (.int .i64 (⟨o1,x0,0,o2,[],[],(⟨#[]⟩:ByteArray),at0⟩:S39).f3) (.slice none 0 0) (.slice none 0 0) (.string (⟨o1,x0,0,o2,[],[],(⟨#[]⟩:ByteArray),at0⟩:S39).f6) (.int .i64 (⟨o1,x0,0,o2,[],[],(⟨#[]⟩:ByteArray),at0⟩:S39).f7))
        have hne:w.heap.size≠bx_:=by have:=HX5.out.lt;omega
        have hne':bx_≠w.heap.size:=by have:=HX5.out.lt;omega
        simp only [iObj] at c_0 c_1 c_2 c_3 c_4 c_5 c_6 c_7
        go_wp2
        (try simp only [Exit.inBlock,Exit.then])
        refine bodyPost_ret (results_cell_row rfl _ _ w.heap.size 39 #[.int .i64 (⟨o1,x0,0,o2,[],[],(⟨#[]⟩:ByteArray),at0⟩:S39).f0,.int .i64 (⟨o1,x0,0,o2,[],[],(⟨#[]⟩:ByteArray),at0⟩:S39).f1,.int .i64 (⟨o1,x0,0,o2,[],[],(⟨#[]⟩:ByteArray),at0⟩:S39).f2,.int .i64 (⟨o1,x0,0,o2,[],[],(⟨#[]⟩:ByteArray),at0⟩:S39).f3,.slice none 0 0,.slice none 0 0,.string (⟨o1,x0,0,o2,[],[],(⟨#[]⟩:ByteArray),at0⟩:S39).f6,.int .i64 (⟨o1,x0,0,o2,[],[],(⟨#[]⟩:ByteArray),at0⟩:S39).f7] (0,0) _ rfl HE.out.1 Try.underlying39 rfl (by kernel_rfl)) rfl ?_
        exact ⟨_,_,rfl,HE.out.2.1.ra,HE.out.2.1.rt,HE.out.2.2.1,HE.out.2.2.2.1,HE.out.2.2.2.2⟩
      rw [if_neg ko] at h
      have go_:(o1==0)=false:=beq_eq_false_iff_ne.mpr ko
      clear ko
      obtain ⟨m,hm,h⟩:=Option.bind_eq_some_iff.mp h
      have HM:=aM hm
      have HF:=aM h
      clear hm h
      go_upto_region 13 with (fail)
      have HXd:=aM (show IXAt g w.heap.size bx_ #[.int .i64 0,.int .i64 0,.int .i64 0,.int .i64 0,.slice none 0 0,.slice none 0 0,.string ⟨#[]⟩,.int .i64 0] tl ⟨o1,x0,0,o2,[],[],(⟨#[]⟩:ByteArray),at0⟩ (.slice none 0 0) (.slice none 0 0) q1 q2 q3 q4 q5 w0 w W4.drew from HX4.out.below (below_drew1 (Below.refl _ _)))
      clear HX4
      refine start_ (n:=7) (S:=fun w'=>w'.cell? ⟨bx_,0,none⟩=some (.int .i64 o1)∧w'.cell? ⟨bx_,1,none⟩=some (.int .i64 x0)∧w'.cell? ⟨bx_,2,none⟩=some (.int .i64 0)∧w'.cell? ⟨bx_,3,none⟩=some (.int .i64 o2)∧w'.cell? ⟨bx_,4,none⟩=some (.slice none 0 0)∧w'.cell? ⟨bx_,5,none⟩=some (.slice none 0 0)∧w'.cell? ⟨bx_,6,none⟩=some (.string (⟨#[]⟩:ByteArray))∧w'.cell? ⟨bx_,7,none⟩=some (.int .i64 at0)) (ds:=[]) #[false,false,false,false,false,false,false] (by kernel_rfl) rfl rfl ⟨(HXd.out.at1 0),(HXd.out.at1 1),(HXd.out.at1 2),(HXd.out.at1 3),(HXd.out.at1 4),(HXd.out.at1 5),(HXd.out.at1 6),(HXd.out.at1 7)⟩ (fun hHeld=>?_)
      refine pure_ (i:=3) (N:=some 59) (v:=?_) (a':=?_) #[false,false,false,true,false,false,false] rfl rfl (by kernel_rfl) (fun _ _ _ h=>h) (Or.inl ⟨by rfl,?_⟩) ?_ ?_
      rotate_left
      · intro w'
        go_simp
        with_reducible rfl
      rotate_left
      · simp only [Act.put,qA,qB,qC,i64_w,i32_w]
        rfl
      refine take_ (i:=0) (N:=some 56) (v:=?_) (a':=?_) #[true,false,false,true,false,false,false] rfl rfl (by kernel_rfl) (fun _ _ _ h=>h) (Or.inl ⟨by rfl,?_⟩) hHeld ?_ ?_
      rotate_left
      · rintro w' ⟨s0,s1,s2,s3,s4,s5,s6,s7⟩
        go_simp
        with_reducible rfl
      rotate_left
      · simp only [Act.put,qA,qB,qC,i64_w,i32_w]
        rfl
      refine take_ (i:=4) (N:=some 60) (v:=?_) (a':=?_) #[true,false,false,true,true,false,false] rfl rfl (by kernel_rfl) (fun _ _ _ h=>h) (Or.inl ⟨by rfl,?_⟩) hHeld ?_ ?_
      rotate_left
      · rintro w' ⟨s0,s1,s2,s3,s4,s5,s6,s7⟩
        go_simp
        with_reducible rfl
      rotate_left
      · simp only [Act.put,qA,qB,qC,i64_w,i32_w]
        rfl
      refine pure_ (i:=5) (N:=some 61) (v:=?_) (a':=?_) #[true,false,false,true,true,true,false] rfl rfl (by kernel_rfl) (fun _ _ _ h=>h) (Or.inl ⟨by rfl,?_⟩) ?_ ?_
      rotate_left
      · intro w'
        go_simp
        with_reducible rfl
      rotate_left
      · simp only [Act.put,qA,qB,qC,i64_w,i32_w]
        rfl
      refine one_ (i:=1) (N:=some 57) #[true,true,false,true,true,true,false] rfl rfl (by kernel_rfl) (by decide) (fun K hK=>?_)
      refine goes_ Try.func25 (by kernel_rfl) rfl #[.agg #[.int .i64 o1,.int .i64 x0,.int .i64 0,.int .i64 o2,.slice none 0 0,.slice none 0 0,.string (⟨#[]⟩:ByteArray),.int .i64 at0]] (by rfl) rfl rfl (by simp only [List.map_toArray,List.map_cons,List.map_nil];rfl) ?_
      with_reducible refine (makes_nil k o1 x0 o2 at0 m _ HM.out).mono ?_
      rintro e w3_ ⟨rfl,hb_⟩
      refine ⟨_,rfl,?_⟩
      have HX3:=aM (HXd.out.below hb_)
      clear hb_
      refine hK.out _ _ ⟨(HX3.out.at1 0),(HX3.out.at1 1),(HX3.out.at1 2),(HX3.out.at1 3),(HX3.out.at1 4),(HX3.out.at1 5),(HX3.out.at1 6),(HX3.out.at1 7)⟩ (fun hHeld=>?_)
      clear hK K
      refine norm_ (a':=?_) ?_ ?_
      rotate_left
      · show Act.put _ (some 57) _=_
        simp only [Act.put,qA,qB,qC,i64_w,i32_w]
        rfl
      refine pure_ (i:=2) (N:=some 58) (v:=?_) (a':=?_) #[true,true,true,true,true,true,false] rfl rfl (by kernel_rfl) (fun _ _ _ h=>h) (Or.inl ⟨by rfl,?_⟩) ?_ ?_
      rotate_left
      · intro w'
        go_simp
        with_reducible rfl
      rotate_left
      · simp only [Act.put,qA,qB,qC,i64_w,i32_w]
        rfl
      refine pure_ (i:=6) (N:=some 62) (v:=?_) (a':=?_) #[true,true,true,true,true,true,true] rfl rfl (by kernel_rfl) (fun _ _ _ h=>h) (Or.inl ⟨by rfl,?_⟩) ?_ ?_
      rotate_left
      · intro w'
        go_simp
        with_reducible rfl
      rotate_left
      · simp only [Act.put,qA,qB,qC,i64_w,i32_w]
        rfl
      refine done_ (by kernel_rfl) ?_
      clear hHeld
      have h:=HF.out
      by_cases km:((m !=0) !=decide (x0≥0))=true
      · rw [if_pos km] at h
        obtain ⟨⟨f1,f2,f3,f4,f5⟩,hf,h⟩:=Option.bind_eq_some_iff.mp h
        have HFL:=aM hf
        clear hf
        replace h:=Option.some.inj h
        simp only [Prod.mk.injEq] at h
        obtain ⟨rfl,rfl,rfl,rfl,rfl,rfl,rfl,rfl,rfl,rfl,rfl,rfl,rfl⟩:=h
        go_upto_if 62 with (fail)
        have km3:(!((m !=0)==decide (0≤x0)))=true:=km
        rw [km3]
        go_wp2_with fail
        refine (r06_Reader_fail.calls g tl _ _ _ _ _ 8 _ _ _ _ _ w0 _ HX3.out.i HX3.out.b HFL.out).mono ?_
        rintro e w5 ⟨rfl,hi_,hb_,hk_⟩
        have HX5:=aM (HX3.out.call hi_ hb_ hk_)
        clear hi_ hb_ hk_ HX3
        go_upto_region 15 with (fail)
        have c_0:=HX5.out.at1 0
        have f_0:=blk_frozen HX5.out.box 0
        have d_0:=blk_cell HX5.out.zero 0
        have e_0:=blk_frozen HX5.out.zero 0
        have c_1:=HX5.out.at1 1
        have f_1:=blk_frozen HX5.out.box 1
        have d_1:=blk_cell HX5.out.zero 1
        have e_1:=blk_frozen HX5.out.zero 1
        have c_2:=HX5.out.at1 2
        have f_2:=blk_frozen HX5.out.box 2
        have d_2:=blk_cell HX5.out.zero 2
        have e_2:=blk_frozen HX5.out.zero 2
        have c_3:=HX5.out.at1 3
        have f_3:=blk_frozen HX5.out.box 3
        have d_3:=blk_cell HX5.out.zero 3
        have e_3:=blk_frozen HX5.out.zero 3
        have c_4:=HX5.out.at1 4
        have f_4:=blk_frozen HX5.out.box 4
        have d_4:=blk_cell HX5.out.zero 4
        have e_4:=blk_frozen HX5.out.zero 4
        have c_5:=HX5.out.at1 5
        have f_5:=blk_frozen HX5.out.box 5
        have d_5:=blk_cell HX5.out.zero 5
        have e_5:=blk_frozen HX5.out.zero 5
        have c_6:=HX5.out.at1 6
        have f_6:=blk_frozen HX5.out.box 6
        have d_6:=blk_cell HX5.out.zero 6
        have e_6:=blk_frozen HX5.out.zero 6
        have c_7:=HX5.out.at1 7
        have f_7:=blk_frozen HX5.out.box 7
        have d_7:=blk_cell HX5.out.zero 7
        have e_7:=blk_frozen HX5.out.zero 7
        have HE:=aM (HX5.out.fin HX5.out.two (.int .i64 (⟨o1,x0,0,o2,[],[],(⟨#[]⟩:ByteArray),at0⟩:S39).f0) (.int .i64 (⟨o1,x0,0,o2,[],[],(⟨#[]⟩:ByteArray),at0⟩:S39).f1) (.int .i64 (⟨o1,x0,0,o2,[],[],(⟨#[]⟩:ByteArray),at0⟩:S39).f2) (.int .i64 (⟨o1,x0,0,o2,[],[],(⟨#[]⟩:ByteArray),at0⟩:S39).f3) (.slice none 0 0) (.slice none 0 0) (.string (⟨o1,x0,0,o2,[],[],(⟨#[]⟩:ByteArray),at0⟩:S39).f6) (.int .i64 (⟨o1,x0,0,o2,[],[],(⟨#[]⟩:ByteArray),at0⟩:S39).f7))
        have hne:w.heap.size≠bx_:=by have:=HX5.out.lt;omega
        have hne':bx_≠w.heap.size:=by have:=HX5.out.lt;omega
        simp only [iObj] at c_0 c_1 c_2 c_3 c_4 c_5 c_6 c_7
        go_wp2
        (try simp only [Exit.inBlock,Exit.then])
        refine bodyPost_ret (results_cell_row rfl _ _ w.heap.size 39 #[.int .i64 (⟨o1,x0,0,o2,[],[],(⟨#[]⟩:ByteArray),at0⟩:S39).f0,.int .i64 (⟨o1,x0,0,o2,[],[],(⟨#[]⟩:ByteArray),at0⟩:S39).f1,.int .i64 (⟨o1,x0,0,o2,[],[],(⟨#[]⟩:ByteArray),at0⟩:S39).f2,.int .i64 (⟨o1,x0,0,o2,[],[],(⟨#[]⟩:ByteArray),at0⟩:S39).f3,.slice none 0 0,.slice none 0 0,.string (⟨o1,x0,0,o2,[],[],(⟨#[]⟩:ByteArray),at0⟩:S39).f6,.int .i64 (⟨o1,x0,0,o2,[],[],(⟨#[]⟩:ByteArray),at0⟩:S39).f7] (0,0) _ rfl HE.out.1 Try.underlying39 rfl (by kernel_rfl)) rfl ?_
        exact ⟨_,_,rfl,HE.out.2.1.ra,HE.out.2.1.rt,HE.out.2.2.1,HE.out.2.2.2.1,HE.out.2.2.2.2⟩
      rw [if_neg km] at h
      have km2:(!((m !=0)==decide (0≤x0)))=false:=Bool.eq_false_iff.mpr km
      clear km
      obtain ⟨⟨y0,y1,y2,y3,y4,y5,y6,y7,y8⟩,hy,h⟩:=Option.bind_eq_some_iff.mp h
      have HY:=aM hy
      clear hy
      replace h:=Option.some.inj h
      simp only [Prod.mk.injEq] at h
      obtain ⟨rfl,rfl,rfl,rfl,rfl,rfl,rfl,rfl,rfl,rfl,rfl,rfl,rfl⟩:=h
      go_upto_if 62 with (fail)
      rw [km2]
      obtain ⟨A1,c1_,hG,hg_,hS_⟩:=HX3.out.i
      have hc1:=cellS89_1 hG
      have hf1:=blk_frozen hG 1
      have HX4:=aM (HX3.out.call (HX3.out.i.set_1 (wrap64 (q1+1))) (below_set HX3.out.b hg_) ((KeepBut.refl w3_ g none).set_ 1 _))
      clear hG hg_ hS_
      go_upto_region 17 with (fail)
      generalize w3_.setCell ⟨g,1,none⟩ (.int .i64 (wrap64 (q1+1)))=W5 at HX4 ⊢
      clear hc1 hf1 HX3
      have c_0:=HX4.out.at1 0
      have c_1:=HX4.out.at1 1
      have c_2:=HX4.out.at1 2
      have c_3:=HX4.out.at1 3
      have c_4:=HX4.out.at1 4
      have c_5:=HX4.out.at1 5
      have c_6:=HX4.out.at1 6
      have c_7:=HX4.out.at1 7
      simp only [iObj] at c_0 c_1 c_2 c_3 c_4 c_5 c_6 c_7
      go_wp2_with fail
      refine (r06_Reader_operands.calls k g tl _ _ _ _ _ o1 x0 0 o2 (⟨#[]⟩:ByteArray) at0 _ _ _ _ _ _ _ _ _ w0 _ HX4.out.i HX4.out.b HY.out).mono ?_
      rintro e w5 ⟨va,vt,rfl,ht_,hi_,hb_,hk_⟩
      obtain ⟨Aa,ca,rfl⟩:=Kd.R_slice ht_.ra
      obtain ⟨At,ct,rfl⟩:=Kd.R_slice ht_.rt
      have HX5:=aM (HX4.out.call hi_ hb_ hk_)
      have HT:=aM (ht_.lower (keep_size HX4.out.k))
      clear ht_ hi_ hb_ hk_
      clear c_0 c_1 c_2 c_3 c_4 c_5 c_6 c_7
      have d_0:=blk_cell HX5.out.zero 0
      have e_0:=blk_frozen HX5.out.zero 0
      have d_1:=blk_cell HX5.out.zero 1
      have e_1:=blk_frozen HX5.out.zero 1
      have d_2:=blk_cell HX5.out.zero 2
      have e_2:=blk_frozen HX5.out.zero 2
      have d_3:=blk_cell HX5.out.zero 3
      have e_3:=blk_frozen HX5.out.zero 3
      have d_4:=blk_cell HX5.out.zero 4
      have e_4:=blk_frozen HX5.out.zero 4
      have d_5:=blk_cell HX5.out.zero 5
      have e_5:=blk_frozen HX5.out.zero 5
      have d_6:=blk_cell HX5.out.zero 6
      have e_6:=blk_frozen HX5.out.zero 6
      have d_7:=blk_cell HX5.out.zero 7
      have e_7:=blk_frozen HX5.out.zero 7
      have HE:=aM (HX5.out.fin HT.out (.int .i64 o1) (.int .i64 x0) (.int .i64 y0) (.int .i64 o2) (.slice Aa y2.length ca) (.slice At y3.length ct) (.string y1) (.int .i64 at0))
      have hne:w.heap.size≠bx_:=by have:=HX5.out.lt;omega
      have hne':bx_≠w.heap.size:=by have:=HX5.out.lt;omega
      go_wp2
      (try simp only [Exit.inBlock,Exit.then])
      refine bodyPost_ret (results_cell_row rfl _ _ w.heap.size 39 #[.int .i64 o1,.int .i64 x0,.int .i64 y0,.int .i64 o2,.slice Aa y2.length ca,.slice At y3.length ct,.string y1,.int .i64 at0] (0,0) _ rfl HE.out.1 Try.underlying39 rfl (by kernel_rfl)) rfl ?_
      exact ⟨_,_,rfl,HE.out.2.1.ra,HE.out.2.1.rt,HE.out.2.2.1,HE.out.2.2.2.1,HE.out.2.2.2.2⟩
end Go.Proofs.Ytkjdblbgmomieaa.PSh
end
-- from YtkjdblbgmomieaaRSimI
section
namespace Go.Proofs.Ytkjdblbgmomieaa.PSh
open Go.RowKit Go.Proofs.YtkjdblbgmomieaaW.PrintWords Go.Proofs.YtkjdblbgmomieaaW.PrintLast Go.Proofs.YtkjdblbgmomieaaW.PrintMore Go.Proofs.Ytkjdblbgmomieaa.Str Go.Proofs.Ytkjdblbgmomieaa.Dig Go.Proofs.Ytkjdblbgmomieaa.DigLaw
set_option linter.unusedVariables false
set_option linter.unusedSimpArgs false
section
variable {tl : List Tk} {en n : Int}
theorem want_rl {x:PE (List Tk)} {s:Int × Int × Int × Int × Int} {a:ByteArray} (L:List UInt8) (e:a.toList=L) (hL:L≠[]) (hl:tl.length≤500000) (h:Rp tl en n x s):∃ s',r06_Reader_want.f tl s.1 s.2.1 s.2.2.1 s.2.2.2.1 s.2.2.2.2 a=some s'∧Rp tl en n (x.bind (wantP en L)) s':=by
  subst e
  exact want_rp (by omega) hL h
abbrev IT:Type:=Int × Int × Int × Int × List Int × List Int × ByteArray × Int × Int × Int × Int × Int × Int
def RvI (tl:List Tk) (en n:Int) (x:PE (SI × List Tk)) (o:IT):Prop:=match x with
  | .ok a=>a.1=⟨o.1,o.2.1,o.2.2.1,o.2.2.2.1,o.2.2.2.2.1,o.2.2.2.2.2.1,o.2.2.2.2.2.2.1,o.2.2.2.2.2.2.2.1⟩∧Rp tl en n (.ok a.2) o.2.2.2.2.2.2.2.2
  | .error q=>Rp tl en n (.error q) o.2.2.2.2.2.2.2.2
theorem fail_at {s1 c:Int} {s:Int × Int × Int × Int × Int} (h:r06_Reader_fail.f tl s1 en n 0 0 c=some s):s.1=s1:=by
  unfold r06_Reader_fail.f at h
  rw [if_pos rfl] at h
  split at h
  · split at h
    · rw [← Option.some.inj h]
    · cases h
  · rw [← Option.some.inj h]
theorem op_none:opOfW (⟨#[]⟩:ByteArray)=(0,0):=by decide+kernel
theorem rmakes_ev (a i n t:Int) (l m:List Int) (s:ByteArray) (z:Int):Ev (fun k=>r05_Makes.f k a i n t l m s z) (makesI a t):=Ev.of (fun k=>r05_Makes.mono a i n t l m s z k) (makes_c a i n t l m s z).2
theorem at_live {ts:List Tk} {s1:Int} (h:Rp tl en n (.ok ts) (s1,en,n,0,0)):r06_Reader_at tl s1 en=some (hereP en ts):=by
  obtain ⟨h0,h1,h2,h3,h4,h5,h6⟩:=h
  simp only at h0 h1 h3 h4
  have hd:=drop_facts h0 h3
  unfold r06_Reader_at
  cases ts with
  | nil=>
    rw [if_neg (by have:=hd.1 rfl;omega)]
    rfl
  | cons t us=>
    obtain ⟨k1,k2,k3⟩:=hd.2 t us rfl
    rw [if_pos k1,if_pos h0,k2]
    rfl
theorem id_rv (hl:tl.length≤500000) (ht:∀ t∈tl,t.f0.size≤65536) {ts:List Tk} {s1:Int} (h:Rp tl en n (.ok ts) (s1,en,n,0,0)):∃ o,Ev (fun k=>if (pk1 ts).toList=([61]:List UInt8) then (r06_Reader_value.f k tl s1 en n 0 0).bind fun v=>(r06_Reader_want.f tl v.2.1 v.2.2.1 v.2.2.2.1 v.2.2.2.2.1 v.2.2.2.2.2 (⟨#[61]⟩:ByteArray)).bind fun x=>some (v.1,x.1,x.2.1,x.2.2.1,x.2.2.2.1,x.2.2.2.2) else some ((-1:Int),s1,en,n,(0:Int),(0:Int))) o∧Rv tl en n (idP en ts) o:=by
  unfold idP
  by_cases c:(pk1 ts).toList=([61]:List UInt8)
  · rw [if_pos c]
    obtain ⟨v,hv,rv⟩:=value_rv (by omega) ht h
    have rv:Rv tl en n (valueP en ts) v:=rv
    have rs:=rv.st
    obtain ⟨s',hs,rw_⟩:=want_rl (a:=(⟨#[61]⟩:ByteArray)) [61] (by rw [toList_eq]) (by decide) hl rs
    refine ⟨_,ev_pos c (Ev.bind hv (ev_some hs (Ev.now _))),?_⟩
    revert rv rw_
    generalize hq:valueP en ts=y
    cases y with
    | error q=>exact fun _ r=>r
    | ok a=>
      intro rv r
      have e:=(indexP_ok (show indexP en 37 1048576 8 ts=.ok (a.1,a.2) from hq)).1
      have e2:(Except.bind (Except.bind (.ok a:PE (Int × List Tk)) fun a=>.ok a.2) (wantP en [61]))=.ok a.2.tail:=by
        show wantP en [61] a.2=_
        unfold wantP
        rw [if_pos]
        rw [e]
        cases ts with
        | nil=>exact c
        | cons t us=>cases us<;>exact c
      rw [e2] at r
      exact ⟨rv.1,r⟩
  · rw [if_neg c]
    exact ⟨_,ev_neg c (Ev.now _),rfl,h⟩
theorem instr_tail_dead {q:Int × Int} {s:Int × Int × Int × Int × Int} (id at0:Int) (h:Rp tl en n (.error q) s):∃ o:IT,Ev (fun k=>(r06_Reader_peek.f tl s.1 s.2.1 s.2.2.1 s.2.2.2.1 s.2.2.2.2 0).bind fun q=>(r05_Find.f k q.1).bind fun o=>if o.1=0 then (r06_Reader_fail.f tl q.2.1 q.2.2.1 q.2.2.2.1 q.2.2.2.2.1 q.2.2.2.2.2 2).bind fun z=>some (o.1,id,0,o.2,([]:List Int),([]:List Int),(⟨#[]⟩:ByteArray),at0,z.1,z.2.1,z.2.2.1,z.2.2.2.1,z.2.2.2.2)
      else (r05_Makes.f k o.1 id 0 o.2 [] [] (⟨#[]⟩:ByteArray) at0).bind fun m=>if (m !=0) !=decide (id≥0) then (r06_Reader_fail.f tl q.2.1 q.2.2.1 q.2.2.2.1 q.2.2.2.2.1 q.2.2.2.2.2 8).bind fun z=>some (o.1,id,0,o.2,[],[],(⟨#[]⟩:ByteArray),at0,z.1,z.2.1,z.2.2.1,z.2.2.2.1,z.2.2.2.2)
        else (r06_Reader_operands.f k tl (wrap64 (q.2.1+1)) q.2.2.1 q.2.2.2.1 q.2.2.2.2.1 q.2.2.2.2.2 o.1 0 (⟨#[]⟩:ByteArray)).bind fun r=>some (o.1,id,r.1,o.2,r.2.2.1,r.2.2.2.1,r.2.1,at0,r.2.2.2.2.1,r.2.2.2.2.2.1,r.2.2.2.2.2.2.1,r.2.2.2.2.2.2.2.1,r.2.2.2.2.2.2.2.2)) o∧o.2.2.2.2.2.2.2.2=s:=by
  have hf:=rf_ref_find (⟨#[]⟩:ByteArray)
  rw [show findFrom (⟨#[]⟩:ByteArray) 30 0=(0,0) from op_none] at hf
  exact ⟨_,ev_some (peek_dead h.dead) (Ev.bind hf (ev_pos rfl (ev_some (fail_dead h.dead) (Ev.now _)))),rfl⟩
theorem instr_tail_live (hl:tl.length≤500000) (ht:∀ t∈tl,t.f0.size≤65536) {ts:List Tk} {s1:Int} (id at0:Int) (h:Rp tl en n (.ok ts) (s1,en,n,0,0)):∃ o:IT,Ev (fun k=>(r06_Reader_peek.f tl s1 en n 0 0 0).bind fun q=>(r05_Find.f k q.1).bind fun o=>if o.1=0 then (r06_Reader_fail.f tl q.2.1 q.2.2.1 q.2.2.2.1 q.2.2.2.2.1 q.2.2.2.2.2 2).bind fun z=>some (o.1,id,0,o.2,([]:List Int),([]:List Int),(⟨#[]⟩:ByteArray),at0,z.1,z.2.1,z.2.2.1,z.2.2.2.1,z.2.2.2.2)
      else (r05_Makes.f k o.1 id 0 o.2 [] [] (⟨#[]⟩:ByteArray) at0).bind fun m=>if (m !=0) !=decide (id≥0) then (r06_Reader_fail.f tl q.2.1 q.2.2.1 q.2.2.2.1 q.2.2.2.2.1 q.2.2.2.2.2 8).bind fun z=>some (o.1,id,0,o.2,[],[],(⟨#[]⟩:ByteArray),at0,z.1,z.2.1,z.2.2.1,z.2.2.2.1,z.2.2.2.2)
        else (r06_Reader_operands.f k tl (wrap64 (q.2.1+1)) q.2.2.1 q.2.2.2.1 q.2.2.2.2.1 q.2.2.2.2.2 o.1 0 (⟨#[]⟩:ByteArray)).bind fun r=>some (o.1,id,r.1,o.2,r.2.2.1,r.2.2.2.1,r.2.1,at0,r.2.2.2.2.1,r.2.2.2.2.2.1,r.2.2.2.2.2.2.1,r.2.2.2.2.2.2.2.1,r.2.2.2.2.2.2.2.2)) o∧RvI tl en n (if (opOfW (pk0 ts)).1=0 then failP en ts 2
    else if ((makesI (opOfW (pk0 ts)).1 (opOfW (pk0 ts)).2 !=0) !=decide (0≤id))=true then failP en ts 8
    else (operP en (opOfW (pk0 ts)).1 ts.tail).bind fun r=>.ok (⟨(opOfW (pk0 ts)).1,id,r.1.n,(opOfW (pk0 ts)).2,r.1.xa,r.1.xt,r.1.nm,at0⟩,r.2)) o:=by
  have hf:=rf_ref_find (pk0 ts)
  have hf:Ev (fun k=>r05_Find.f k (pk0 ts)) (opOfW (pk0 ts)):=hf
  have hm:=rmakes_ev (opOfW (pk0 ts)).1 id 0 (opOfW (pk0 ts)).2 [] [] (⟨#[]⟩:ByteArray) at0
  by_cases c1:(opOfW (pk0 ts)).1=0
  · rw [if_pos c1]
    obtain ⟨s',hs,hr⟩:=fail_live h (show (2:Int)≠0 by decide)
    exact ⟨_,ev_some (peek_live0 h) (Ev.bind hf (ev_pos c1 (ev_some hs (Ev.now _)))),hr⟩
  rw [if_neg c1]
  by_cases c2:((makesI (opOfW (pk0 ts)).1 (opOfW (pk0 ts)).2 !=0) !=decide (0≤id))=true
  · rw [if_pos c2]
    obtain ⟨s',hs,hr⟩:=fail_live h (show (8:Int)≠0 by decide)
    exact ⟨_,ev_some (peek_live0 h) (Ev.bind hf (ev_neg c1 (Ev.bind hm (ev_pos c2 (ev_some hs (Ev.now _)))))),hr⟩
  rw [if_neg c2]
  have hst:Rp tl en n (.ok ts.tail) (wrap64 (s1+1),en,n,0,0):=by
    cases ts with
    | nil=>exact absurd (show (opOfW (pk0 [])).1=0 by rw [show pk0 []=(⟨#[]⟩:ByteArray) from rfl,op_none]) c1
    | cons t us=>exact step_live (by omega) h
  obtain ⟨o,ho,hr⟩:=operands_rv hl ht (opOfW (pk0 ts)).1 hst
  have hr:RvP tl en n (operP en (opOfW (pk0 ts)).1 ts.tail) o:=hr
  refine ⟨_,ev_some (peek_live0 h) (Ev.bind hf (ev_neg c1 (Ev.bind hm (ev_neg c2 (Ev.bind ho (Ev.now _)))))),?_⟩
  revert hr
  cases operP en (opOfW (pk0 ts)).1 ts.tail with
  | error q=>exact fun r=>r
  | ok a=>
    rintro ⟨e1,e2,e3,e4,r⟩
    refine ⟨?_,r⟩
    show (⟨_,_,_,_,_,_,_,_⟩:SI)=_
    rw [e1,e2,e3,e4]
theorem instr_rv (hl:tl.length≤500000) (ht:∀ t∈tl,t.f0.size≤65536) {ts:List Tk} {s1:Int} (h:Rp tl en n (.ok ts) (s1,en,n,0,0)):∃ o,Ev (fun k=>r06_Reader_instr.f k tl s1 en n 0 0) o∧RvI tl en n (instrP en ts) o:=by
  obtain ⟨x,hx,rx⟩:=id_rv hl ht h
  unfold r06_Reader_instr.f instrP
  revert rx
  cases idP en ts with
  | error q=>
    intro rx
    have rx:Rp tl en n (.error q) x.2:=rx
    obtain ⟨o,ho,e⟩:=instr_tail_dead x.1 (hereP en ts) rx
    refine ⟨o,ev_some (at_live h) (ev_some (peek_live1 h) (Ev.bind hx ho)),?_⟩
    show Rp tl en n (.error q) o.2.2.2.2.2.2.2.2
    rw [e]
    exact rx
  | ok i=>
    rintro ⟨e1,rx⟩
    have e:=rx.live
    rw [e] at rx
    obtain ⟨o,ho,hr⟩:=instr_tail_live hl ht i.1 (hereP en ts) rx
    refine ⟨o,ev_some (at_live h) (ev_some (peek_live1 h) (Ev.bind hx ?_)),hr⟩
    rw [e1,e]
    exact ho
theorem instr_dead {q:Int × Int} {s:Int × Int × Int × Int × Int} (h0:0≤s.1) (h:Rp tl en n (.error q) s):∃ o:IT,Ev (fun k=>r06_Reader_instr.f k tl s.1 s.2.1 s.2.2.1 s.2.2.2.1 s.2.2.2.2) o∧o.2.2.2.2.2.2.2.2=s:=by
  obtain ⟨at0,ha⟩:∃ a,r06_Reader_at tl s.1 s.2.1=some a:=by
    unfold r06_Reader_at
    split
    · first | exact ⟨_,rfl⟩ | (rw [if_pos h0];exact ⟨_,rfl⟩)
    · exact ⟨_,rfl⟩
  obtain ⟨o,ho,e⟩:=instr_tail_dead (-1) at0 h
  refine ⟨o,?_,e⟩
  unfold r06_Reader_instr.f
  refine ev_some ha (ev_some (peek_dead h.dead) (Ev.bind (ev_neg (?_:¬ (⟨#[]⟩:ByteArray).toList=([61]:List UInt8)) (Ev.now _)) ho))
  rw [toList_eq]
  decide
end
end Go.Proofs.Ytkjdblbgmomieaa.PSh
end
-- from YtkjdblbgmomieaaHRBlock
section
namespace Go.Proofs.Ytkjdblbgmomieaa.PSh
set_option maxHeartbeats 8000000
set_option maxRecDepth 100000
open Go.RowKit Go.Proofs.YtkjdblbgmomieaaW.PrintWords Go.Proofs.YtkjdblbgmomieaaW.PrintLast Go.Proofs.YtkjdblbgmomieaaW.PrintMore Go.Proofs.Ytkjdblbgmomieaa.Str
set_option linter.unusedVariables false
set_option linter.unusedSimpArgs false
abbrev ST5:Type:=Int × Int × Int × Int × Int
def rblTest (tl:List (S101)) (s1 s2 s3 s4 s5:Int):Option (Bool × ST5):=
  if s4=0 then (r06_Reader_peek.f tl s1 s2 s3 s4 s5 0).bind fun p=>if p.1.toList=([125]:List UInt8) then some (false,p.2.1,p.2.2.1,p.2.2.2.1,p.2.2.2.2.1,p.2.2.2.2.2) else (r06_Reader_peek.f tl p.2.1 p.2.2.1 p.2.2.2.1 p.2.2.2.2.1 p.2.2.2.2.2 1).bind fun q=>some (q.1.toList !=([58]:List UInt8),q.2.1,q.2.2.1,q.2.2.2.1,q.2.2.2.2.1,q.2.2.2.2.2)
  else some (false,s1,s2,s3,s4,s5)
def rblLoop:Nat→List (S101)→List (S39)→Int→Int→Int→Int→Int→Option (List (S39) × ST5)
  | 0,_,_,_,_,_,_,_=>none
  | k+1,tl,acc,s1,s2,s3,s4,s5=>(rblTest tl s1 s2 s3 s4 s5).bind fun c=>if c.1=true then (if c.2.2.2.1≥4096 then r06_Reader_fail.f tl c.2.1 c.2.2.1 c.2.2.2.1 c.2.2.2.2.1 c.2.2.2.2.2 6 else some (c.2.1,c.2.2.1,c.2.2.2.1,c.2.2.2.2.1,c.2.2.2.2.2)).bind fun a=>
        (r06_Reader_instr.f k tl a.1 a.2.1 (wrap64 (a.2.2.1+1)) a.2.2.2.1 a.2.2.2.2).bind fun x=>if acc.length<1000000000000 then rblLoop k tl (acc++[⟨x.1,x.2.1,x.2.2.1,x.2.2.2.1,x.2.2.2.2.1,x.2.2.2.2.2.1,x.2.2.2.2.2.2.1,x.2.2.2.2.2.2.2.1⟩]) x.2.2.2.2.2.2.2.2.1 x.2.2.2.2.2.2.2.2.2.1 x.2.2.2.2.2.2.2.2.2.2.1 x.2.2.2.2.2.2.2.2.2.2.2.1 x.2.2.2.2.2.2.2.2.2.2.2.2 else none
      else some (acc,c.2.1,c.2.2.1,c.2.2.2.1,c.2.2.2.2.1,c.2.2.2.2.2)
def r06_Reader_block.f (k:Nat) (tl:List (S101)) (s1 s2 s3 s4 s5:Int) (n:Int):Option (List (S39) × ST5):=
  (if n≥256 then r06_Reader_fail.f tl s1 s2 s3 s4 s5 6 else some (s1,s2,s3,s4,s5)).bind fun a=>(r06_Reader_peek.f tl a.1 a.2.1 a.2.2.1 a.2.2.2.1 a.2.2.2.2 0).bind fun p=>(r01_Print.f k n).bind fun d=>if d.size≤1000 then
    (if p.1.toList=((⟨#[98]⟩:ByteArray)++d).toList then some (p.2.1,p.2.2.1,p.2.2.2.1,p.2.2.2.2.1,p.2.2.2.2.2) else r06_Reader_fail.f tl p.2.1 p.2.2.1 p.2.2.2.1 p.2.2.2.2.1 p.2.2.2.2.2 7).bind fun q=>
      (r06_Reader_want.f tl (wrap64 (q.1+1)) q.2.1 q.2.2.1 q.2.2.2.1 q.2.2.2.2 (⟨#[58]⟩:ByteArray)).bind fun o=>rblLoop k tl [] o.1 o.2.1 o.2.2.1 o.2.2.2.1 o.2.2.2.2 else none
theorem row39_keep {α:Type} {d:Kd α} {e base t g:Nat} {cells:Array Value} {v:Value} {xs:List α} {w1 w2:World} (hr:d.R e w1 base (fun _=>True) v xs) (hG:w1.heap[g]?=some (.cells cells t (0,0))) (ht:∀ q,q∈e::d.E→q≠t) (hk:KeepBut w1 w2 g none):d.R e w2 base (fun _=>True) v xs:=
  Kd.R_mono (Kd.R_step (Kd.R_types hr hG ht) (fun k ho hlt=>hk.2 k hlt ho.2 (by simp))) (fun _ _=>trivial)
structure RBlAt (g:Nat) (tl:List (S101)) (acc:List (S39)) (v:Value) (s1 s2 s3 s4 s5:Int) (w0 w w':World):Prop where
  i:IsS89 w0 w' g tl s1 s2 s3 s4 s5
  b:Below w0.heap.size w0 w'
  k:KeepBut w w' g none
  wb:w0.heap.size≤w.heap.size
  gl:g<w.heap.size
  row:Kd.R k39 39 w' w.heap.size (fun _=>True) v acc
section
variable {g : Nat} {tl : List (S101)} {acc : List (S39)} {v : Value} {s1 s2 s3 s4 s5 r1 r2 r3 r4 r5 : Int} {w0 w w1 w2 : World}
theorem RBlAt.call (h:RBlAt g tl acc v s1 s2 s3 s4 s5 w0 w w1) (hi:IsS89 w0 w2 g tl r1 r2 r3 r4 r5) (hb:Below w0.heap.size w0 w2) (hk:KeepBut w1 w2 g none):RBlAt g tl acc v r1 r2 r3 r4 r5 w0 w w2:=by
  obtain ⟨A0,c0,hG,-,-⟩:=h.i
  exact ⟨hi,hb,h.k.trans hk (.inl rfl),h.wb,h.gl,row39_keep h.row hG (by decide) hk⟩
theorem RBlAt.below (h:RBlAt g tl acc v s1 s2 s3 s4 s5 w0 w w1) (hb:Below w1.heap.size w1 w2):RBlAt g tl acc v s1 s2 s3 s4 s5 w0 w w2:=
  ⟨h.i.below hb,below_step h.b hb,h.k.trans (KeepBut.of_below hb g none) (.inl rfl),h.wb,h.gl,Kd.R_below h.row hb⟩
theorem RBlAt.app (h:RBlAt g tl acc v s1 s2 s3 s4 s5 w0 w w1) {acc':List (S39)} {v1:Value} (hr:Kd.R k39 39 w2 w.heap.size (fun _=>True) v1 acc') (hg:w1.grownBy w2 v.ownBlock):RBlAt g tl acc' v1 s1 s2 s3 s4 s5 w0 w w2:=by
  have h4:=h.wb
  obtain ⟨A0,c0,hG,-,-⟩:=h.i
  have ng:some g≠v.ownBlock:=Kd.R_ne h.row hG (by decide)
  have hb:Below w0.heap.size w0 w2:=pw_below_grown h.b v.ownBlock (Nat.le_trans h.wb (keep_size h.k)) hg (fun k e=>Nat.le_trans h.wb (Kd.R_base h.row k e))
  exact ⟨h.i.grown hg ng,hb,h.k.trans (KeepBut.of_grown hg g) ((Kd.R_base2 h.row).imp (fun e=>e) (fun e=>e)),h.wb,h.gl,hr⟩
theorem RBlAt.code (h:RBlAt g tl acc v s1 s2 s3 s4 s5 w0 w w1):w1.cell? ⟨g,4,none⟩=some (.int .i64 s4):=by
  obtain ⟨A0,c0,hG,-,-⟩:=h.i
  exact blk_cell hG 4
theorem RBlAt.num (h:RBlAt g tl acc v s1 s2 s3 s4 s5 w0 w w1):w1.cell? ⟨g,3,none⟩=some (.int .i64 s3)∧w1.frozen? ⟨g,3,none⟩=false:=by
  obtain ⟨A0,c0,hG,-,-⟩:=h.i
  exact ⟨blk_cell hG 3,blk_frozen hG 3⟩
theorem RBlAt.where_ (h:RBlAt g tl acc v s1 s2 s3 s4 s5 w0 w w1):w1.cell? ⟨g,1,none⟩=some (.int .i64 s1)∧w1.frozen? ⟨g,1,none⟩=false:=by
  obtain ⟨A0,c0,hG,-,-⟩:=h.i
  exact ⟨blk_cell hG 1,blk_frozen hG 1⟩
theorem RBlAt.set1 (h:RBlAt g tl acc v s1 s2 s3 s4 s5 w0 w w1) (x:Int):RBlAt g tl acc v x s2 s3 s4 s5 w0 w (w1.setCell ⟨g,1,none⟩ (.int .i64 x)):=
  h.call (h.i.set_1 x) (below_set h.b h.i.ge) ((KeepBut.refl w1 g none).set_ 1 _)
theorem RBlAt.set3 (h:RBlAt g tl acc v s1 s2 s3 s4 s5 w0 w w1) (x:Int):RBlAt g tl acc v s1 s2 x s4 s5 w0 w (w1.setCell ⟨g,3,none⟩ (.int .i64 x)):=
  h.call (h.i.set_3 x) (below_set h.b h.i.ge) ((KeepBut.refl w1 g none).set_ 3 _)
end
theorem r06_Reader_block.calls (k g:Nat) (tl:List (S101)) (s1 s2 s3 s4 s5 n:Int) (r0:List (S39)) (r1 r2 r3 r4 r5:Int) (w0 w:World) (hI:IsS89 w0 w g tl s1 s2 s3 s4 s5) (hB:Below w0.heap.size w0 w) (h:r06_Reader_block.f k tl s1 s2 s3 s4 s5 n=some (r0,r1,r2,r3,r4,r5)):
    Calls Try.prog 88 #[.pointer (some ⟨g,0,none⟩),.int .i64 n] w fun e w'=>∃ v0_:Value,e=.returned v0_∧Kd.R k39 39 w' w.heap.size (fun _=>True) v0_ r0∧IsS89 w0 w' g tl r1 r2 r3 r4 r5∧Below w0.heap.size w0 w'∧KeepBut w w' g none:=by
  have hu39:=Try.underlying39
  unfold r06_Reader_block.f at h
  obtain ⟨⟨a1,a2,a3,a4,a5⟩,ha,h⟩:=Option.bind_eq_some_iff.mp h
  obtain ⟨⟨p0,p1,p2,p3,p4,p5⟩,hp,h⟩:=Option.bind_eq_some_iff.mp h
  obtain ⟨d,hd,h⟩:=Option.bind_eq_some_iff.mp h
  by_cases hds:d.size≤1000
  rotate_left
  · rw [if_neg hds] at h
    cases h
  rw [if_pos hds] at h
  obtain ⟨⟨q1,q2,q3,q4,q5⟩,hq,h⟩:=Option.bind_eq_some_iff.mp h
  obtain ⟨⟨o1,o2,o3,o4,o5⟩,ho,h⟩:=Option.bind_eq_some_iff.mp h
  have HA:=aM ha
  have HP:=aM hp
  have HDD:=aM hd
  have HDS:=aM hds
  have HQ:=aM hq
  have HO:=aM ho
  have HLP:=aM h
  have HX:=aM (show RBlAt g tl [] (.slice none 0 0) s1 s2 s3 s4 s5 w0 w w from ⟨hI,hB,KeepBut.refl w g none,hB.size,hI.lt,Kd.R_nil _ _ _ _ _⟩)
  clear ha hp hd hds hq ho h hI hB
  go_enter Try.func88,Try.ntmps88
  go_upto_if 8 with (fail)
  (try simp only [Act.put,qA,qB,qC])
  go_cut [] (fun wc=>Aside0 (RBlAt g tl [] (.slice none 0 0) a1 a2 a3 a4 a5 w0 w wc))
  case first=>
    have ha:=HA.out
    by_cases c:n≥256
    · rw [if_pos c] at ha
      have d1:decide (256≤n)=true:=decide_eq_true c
      have HY:=aM ha
      clear c ha
      rw [d1]
      go_wp2_with fail
      refine (r06_Reader_fail.calls g tl _ _ _ _ _ 6 _ _ _ _ _ w0 _ HX.out.i HX.out.b HY.out).mono ?_
      rintro e w1 ⟨rfl,hi_,hb_,hk_⟩
      have HX1:=aM (HX.out.call hi_ hb_ hk_)
      clear hi_ hb_ hk_
      go_wp2_with fail
      go_meet
      exact HX1
    · rw [if_neg c] at ha
      have d1:decide (256≤n)=false:=decide_eq_false c
      obtain ⟨rfl,rfl,rfl,rfl,rfl⟩:s1=a1∧s2=a2∧s3=a3∧s4=a4∧s5=a5:=by simpa using ha
      clear c ha
      rw [d1]
      go_wp2_with fail
      go_meet
      exact HX
  case rest=>
    clear HX HA
    have HX:=hcut
    clear hcut
    go_wp2_with fail
    refine (r06_Reader_peek.calls g tl _ _ _ _ _ 0 _ _ _ _ _ _ w0 _ HX.out.i HX.out.b HP.out).mono ?_
    rintro e w1 ⟨rfl,hi_,hb_,hk_⟩
    have HX1:=aM (HX.out.call hi_ hb_ hk_)
    clear hi_ hb_ hk_
    go_wp2_with fail
    refine (r01_Print.calls k n d _ HDD.out).mono ?_
    rintro e w2 ⟨rfl,hb_⟩
    have HX2:=aM (HX1.out.below hb_)
    have hsz:1+d.size≤9223372036854775807:=by have:=HDS.out;omega
    clear hb_ HX HX1
    go_upto_if 16 with (fail)
    (try simp only [Act.put,qA,qB,qC])
    go_cut [] (fun wc=>Aside0 (RBlAt g tl [] (.slice none 0 0) q1 q2 q3 q4 q5 w0 w wc))
    case first=>
      have hq:=HQ.out
      by_cases c:p0.toList=((⟨#[98]⟩:ByteArray)++d).toList
      · rw [if_pos c] at hq
        have d1:(!(p0.toList==((⟨#[98]⟩:ByteArray)++d).toList))=false:=bne_eq_false_iff_eq.mpr c
        obtain ⟨rfl,rfl,rfl,rfl,rfl⟩:p1=q1∧p2=q2∧p3=q3∧p4=q4∧p5=q5:=by simpa using hq
        clear c hq
        rw [d1]
        go_wp2_with fail
        go_meet
        exact HX2
      · rw [if_neg c] at hq
        have d1:(!(p0.toList==((⟨#[98]⟩:ByteArray)++d).toList))=true:=bne_iff_ne.mpr c
        have HY:=aM hq
        clear c hq
        rw [d1]
        go_wp2_with fail
        refine (r06_Reader_fail.calls g tl _ _ _ _ _ 7 _ _ _ _ _ w0 _ HX2.out.i HX2.out.b HY.out).mono ?_
        rintro e w3 ⟨rfl,hi_,hb_,hk_⟩
        have HX3:=aM (HX2.out.call hi_ hb_ hk_)
        clear hi_ hb_ hk_
        go_wp2_with fail
        go_meet
        exact HX3
    case rest=>
      clear HX2 HQ
      have HX:=hcut
      clear hcut
      obtain ⟨hc1,hf1⟩:=HX.out.where_
      have HX1:=aM (HX.out.set1 (wrap64 (q1+1)))
      go_upto_region 6 with (fail)
      generalize wc.setCell ⟨g,1,none⟩ (.int .i64 (wrap64 (q1+1)))=W3 at HX1 ⊢
      clear hc1 hf1 HX
      go_wp2_with fail
      refine (r06_Reader_want.calls g tl _ _ _ _ _ (⟨#[58]⟩:ByteArray) _ _ _ _ _ w0 _ HX1.out.i HX1.out.b HO.out).mono ?_
      rintro e w4 ⟨rfl,hi_,hb_,hk_⟩
      have HX2:=aM (HX1.out.call hi_ hb_ hk_)
      clear hi_ hb_ hk_
      go_wp2
      (try simp only [Act.put,qA,qB,qC])
      clear HX1
      go_loopg [5] k (fun kq v5 w'=>∃ (acc:List (S39)) (t1 t2 t3 t4 t5:Int),Aside0 (rblLoop kq tl acc t1 t2 t3 t4 t5=some (r0,r1,r2,r3,r4,r5))∧Aside0 (kq≤k)∧Aside0 (RBlAt g tl acc v5 t1 t2 t3 t4 t5 w0 w w'))
      case atStart=>exact ⟨_,_,_,_,_,_,⟨HLP.out⟩,⟨Nat.le_refl _⟩,⟨HX2.out⟩⟩
      case round=>
        clear HX2
        obtain ⟨acc,t1,t2,t3,t4,t5,HLO,HKQ,HX⟩:=hrel
        obtain ⟨A5,c5,e5_⟩:=Kd.R_slice HX.out.row
        subst e5_
        cases gk with
        | zero=>exact absurd HLO.out (by simp [rblLoop])
        | succ k1=>
          have hl:=HLO.out
          simp only [rblLoop] at hl
          obtain ⟨⟨c,u1,u2,u3,u4,u5⟩,hc,hl⟩:=Option.bind_eq_some_iff.mp hl
          have HC:=aM hc
          have HN:=aM hl
          clear hc hl HLO
          go_upto_region 8 with (fail)
          go_cut [44] (fun v44 wc=>v44=.bool c∧Aside0 (RBlAt g tl acc (.slice A5 acc.length c5) u1 u2 u3 u4 u5 w0 w wc))
          case first=>
            have hc:=HC.out
            have hc4:=HX.out.code
            unfold rblTest at hc
            by_cases z:t4=0
            · rw [if_pos z] at hc
              have z1:(t4==0)=true:=beq_iff_eq.mpr z
              obtain ⟨⟨p0,p1,p2,p3,p4,p5⟩,hp,hc⟩:=Option.bind_eq_some_iff.mp hc
              have HP:=aM hp
              clear z hp
              by_cases y:p0.toList=([125]:List UInt8)
              · rw [if_pos y] at hc
                have y1:(p0.toList==([125]:List UInt8))=true:=beq_iff_eq.mpr y
                have y2:(p0.toList !=([125]:List UInt8))=false:=bne_eq_false_iff_eq.mpr y
                obtain ⟨rfl,rfl,rfl,rfl,rfl,rfl⟩:false=c∧p1=u1∧p2=u2∧p3=u3∧p4=u4∧p5=u5:=by simpa using hc
                clear y hc
                go_wp2_with fail
                refine (r06_Reader_peek.calls g tl _ _ _ _ _ 0 _ _ _ _ _ _ w0 _ HX.out.i HX.out.b HP.out).mono ?_
                rintro e w5 ⟨rfl,hi_,hb_,hk_⟩
                have HX1:=aM (HX.out.call hi_ hb_ hk_)
                clear hi_ hb_ hk_
                go_wp2_with fail
                go_meet
                exact ⟨rfl,HX1⟩
              · rw [if_neg y] at hc
                have y1:(p0.toList==([125]:List UInt8))=false:=beq_eq_false_iff_ne.mpr y
                have y2:(p0.toList !=([125]:List UInt8))=true:=bne_iff_ne.mpr y
                obtain ⟨⟨q0,q1,q2,q3,q4,q5⟩,hq,hc⟩:=Option.bind_eq_some_iff.mp hc
                have HQ:=aM hq
                obtain ⟨rfl,rfl,rfl,rfl,rfl,rfl⟩:(q0.toList !=([58]:List UInt8))=c∧q1=u1∧q2=u2∧q3=u3∧q4=u4∧q5=u5:=by simpa using hc
                clear y hq hc
                go_wp2_with fail
                refine (r06_Reader_peek.calls g tl _ _ _ _ _ 0 _ _ _ _ _ _ w0 _ HX.out.i HX.out.b HP.out).mono ?_
                rintro e w5 ⟨rfl,hi_,hb_,hk_⟩
                have HX1:=aM (HX.out.call hi_ hb_ hk_)
                clear hi_ hb_ hk_
                go_wp2_with fail
                refine (r06_Reader_peek.calls g tl _ _ _ _ _ 1 _ _ _ _ _ _ w0 _ HX1.out.i HX1.out.b HQ.out).mono ?_
                rintro e w6 ⟨rfl,hi_,hb_,hk_⟩
                have HX2:=aM (HX1.out.call hi_ hb_ hk_)
                clear hi_ hb_ hk_
                go_wp2_with fail
                go_meet
                exact ⟨rfl,HX2⟩
            · rw [if_neg z] at hc
              have z1:(t4==0)=false:=beq_eq_false_iff_ne.mpr z
              obtain ⟨rfl,rfl,rfl,rfl,rfl,rfl⟩:false=c∧t1=u1∧t2=u2∧t3=u3∧t4=u4∧t5=u5:=by simpa using hc
              clear z hc
              go_wp2_with fail
              go_meet
              exact ⟨rfl,HX⟩
          case rest=>
            clear HX HC
            obtain ⟨rfl,HX⟩:=hcut
            have hl:=HN.out
            clear HN
            cases c with
            | false=>
              rw [if_neg (by simp)] at hl
              obtain ⟨rfl,rfl,rfl,rfl,rfl,rfl⟩:acc=r0∧u1=r1∧u2=r2∧u3=r3∧u4=r4∧u5=r5:=by simpa using hl
              clear hl
              go_wp2
              go_ret
              exact ⟨_,rfl,HX.out.row,HX.out.i,HX.out.b,HX.out.k⟩
            | true=>
              rw [if_pos rfl] at hl
              obtain ⟨⟨b1,b2,b3,b4,b5⟩,hb,hl⟩:=Option.bind_eq_some_iff.mp hl
              obtain ⟨⟨x0,x1,x2,x3,x4,x5,x6,x7,x8,x9,x10,x11,x12⟩,hx,hl⟩:=Option.bind_eq_some_iff.mp hl
              by_cases hlen:acc.length<1000000000000
              rotate_left
              · rw [if_neg hlen] at hl
                cases hl
              rw [if_pos hlen] at hl
              have HBB:=aM hb
              have HXI:=aM hx
              have HLN:=aM hlen
              have HNX:=aM hl
              clear hb hx hlen hl
              obtain ⟨hc3,hf3⟩:=HX.out.num
              go_upto_if 49 with (fail)
              (try simp only [Act.put,qA,qB,qC])
              clear hc3 hf3
              go_cut [] (fun wc=>Aside0 (RBlAt g tl acc (.slice A5 acc.length c5) b1 b2 b3 b4 b5 w0 w wc))
              case first=>
                have hb:=HBB.out
                by_cases z:u3≥4096
                · rw [if_pos z] at hb
                  have z1:decide (4096≤u3)=true:=decide_eq_true z
                  have HY:=aM hb
                  clear z hb
                  rw [z1]
                  go_wp2_with fail
                  refine (r06_Reader_fail.calls g tl _ _ _ _ _ 6 _ _ _ _ _ w0 _ HX.out.i HX.out.b HY.out).mono ?_
                  rintro e w5 ⟨rfl,hi_,hb_,hk_⟩
                  have HX1:=aM (HX.out.call hi_ hb_ hk_)
                  clear hi_ hb_ hk_
                  go_wp2_with fail
                  go_meet
                  exact HX1
                · rw [if_neg z] at hb
                  have z1:decide (4096≤u3)=false:=decide_eq_false z
                  obtain ⟨rfl,rfl,rfl,rfl,rfl⟩:u1=b1∧u2=b2∧u3=b3∧u4=b4∧u5=b5:=by simpa using hb
                  clear z hb
                  rw [z1]
                  go_wp2_with fail
                  go_meet
                  exact HX
              case rest=>
                clear HX HBB
                have HX:=hcut
                clear hcut
                obtain ⟨hc3,hf3⟩:=HX.out.num
                have HX1:=aM (HX.out.set3 (wrap64 (b3+1)))
                go_upto_region 12 with (fail)
                generalize wc.setCell ⟨g,3,none⟩ (.int .i64 (wrap64 (b3+1)))=W3 at HX1 ⊢
                clear hc3 hf3 HX
                go_wp2_with fail
                refine (r06_Reader_instr.calls k1 g tl b1 b2 _ b4 b5 x0 x1 x2 x3 x4 x5 x6 x7 x8 x9 x10 x11 x12 w0 _ HX1.out.i HX1.out.b HXI.out).mono ?_
                rintro e w3_ ⟨v4,v5,rfl,hr4,hr5,hi5,hb5,hk5⟩
                obtain ⟨A6,c6,rfl⟩:=Kd.R_slice hr4
                obtain ⟨A7,c7,rfl⟩:=Kd.R_slice hr5
                have hx3:=HX1.out.call hi5 hb5 hk5
                have HR4:=aM (Kd.R_alloc (Kd.R_lower hr4 (keep_size HX1.out.k)) (.cells #[.int .i64 x0,.int .i64 x1,.int .i64 x2,.int .i64 x3,.slice A6 x4.length c6,.slice A7 x5.length c7,.string x6,.int .i64 x7] 39))
                have HR5:=aM (Kd.R_alloc (Kd.R_lower hr5 (keep_size HX1.out.k)) (.cells #[.int .i64 x0,.int .i64 x1,.int .i64 x2,.int .i64 x3,.slice A6 x4.length c6,.slice A7 x5.length c7,.string x6,.int .i64 x7] 39))
                have HX3:=aM (hx3.below (below_alloc (Below.refl _ _) (.cells #[.int .i64 x0,.int .i64 x1,.int .i64 x2,.int .i64 x3,.slice A6 x4.length c6,.slice A7 x5.length c7,.string x6,.int .i64 x7] 39)))
                have hbx:=blk_new w3_ (.cells #[.int .i64 x0,.int .i64 x1,.int .i64 x2,.int .i64 x3,.slice A6 x4.length c6,.slice A7 x5.length c7,.string x6,.int .i64 x7] 39)
                clear hb5 hi5 hk5 hr4 hr5 hx3 HX1
                go_upto_region 13 with (fail)
                generalize hww:w3_=w9_ at *
                generalize w9_.alloc (.cells #[.int .i64 x0,.int .i64 x1,.int .i64 x2,.int .i64 x3,.slice A6 x4.length c6,.slice A7 x5.length c7,.string x6,.int .i64 x7] 39)=W6 at HX3 HR4 HR5 hbx ⊢
                have z0:W6.cell? ⟨w9_.heap.size,0,none⟩=some (.int .i64 x0):=(blk_cell hbx 0).trans rfl
                have z1:W6.cell? ⟨w9_.heap.size,1,none⟩=some (.int .i64 x1):=(blk_cell hbx 1).trans rfl
                have z2:W6.cell? ⟨w9_.heap.size,2,none⟩=some (.int .i64 x2):=(blk_cell hbx 2).trans rfl
                have z3:W6.cell? ⟨w9_.heap.size,3,none⟩=some (.int .i64 x3):=(blk_cell hbx 3).trans rfl
                have z4:W6.cell? ⟨w9_.heap.size,4,none⟩=some (.slice A6 x4.length c6):=(blk_cell hbx 4).trans rfl
                have z5:W6.cell? ⟨w9_.heap.size,5,none⟩=some (.slice A7 x5.length c7):=(blk_cell hbx 5).trans rfl
                have z6:W6.cell? ⟨w9_.heap.size,6,none⟩=some (.string x6):=(blk_cell hbx 6).trans rfl
                have z7:W6.cell? ⟨w9_.heap.size,7,none⟩=some (.int .i64 x7):=(blk_cell hbx 7).trans rfl
                clear hbx hww
                go_wp2_with (first | ((with_reducible refine gate_builtin (b:=.append) (xs:=#[.tmp 62,.tmp 64]) rfl ?_);at_builtin;refine Kd.R_append k39 w.heap.size rfl (.tmp 62) (.tmp 64) 36 39 (.agg #[.int .i64 0,.int .i64 0,.int .i64 0,.int .i64 0,.slice none 0 0,.slice none 0 0,.string ⟨#[]⟩,.int .i64 0]) 104 rfl Try.underlying36 (by kernel_rfl) rfl (by decide) (by omega) (.slice A5 acc.length c5) acc (⟨x0,x1,x2,x3,x4,x5,x6,x7⟩:S39) [.int .i64 x0,.int .i64 x1,.int .i64 x2,.int .i64 x3,.slice A6 x4.length c6,.slice A7 x5.length c7,.string x6,.int .i64 x7] (fun _=>True) (fun k=>True∧some k≠(Value.slice A5 acc.length c5).ownBlock) rfl rfl (k39_mkM _ _ _ (⟨x0,x1,x2,x3,x4,x5,x6,x7⟩:S39) (Kd.R_apart' HR4.out (Kd.R_typed HX3.out.row) (by decide)) (Kd.R_apart' HR5.out (Kd.R_typed HX3.out.row) (by decide))) (fun k hk=>⟨trivial,hk.2⟩) (fun k hk=>trivial) HX3.out.row (Below.refl _ _) (keep_size HX3.out.k) (by have:=HLN.out;omega) ?_;intro v1 w4_ hr4 hb4 hg4 hv4;obtain ⟨A8,c8,e8⟩:=Kd.R_slice hr4;rw [List.length_append,List.length_singleton] at e8;subst e8;have HX9:=aM (HX3.out.app hr4 hg4);clear hr4 hb4 hg4 hv4))
                go_roundg k1
                case measure=>have:=HKQ.out;omega
                case rel=>exact ⟨_,_,_,_,_,_,⟨HNX.out⟩,⟨by have:=HKQ.out;omega⟩,⟨HX9.out⟩⟩
end Go.Proofs.Ytkjdblbgmomieaa.PSh
end
