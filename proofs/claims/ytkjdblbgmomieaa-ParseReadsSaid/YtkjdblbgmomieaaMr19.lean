import Derived.Test.YtkjdblbgmomieaaMr1
import Derived.Test.YtkjdblbgmomieaaMr18
import Derived.KernelRfl
import Derived.Test.YtkjdblbgmomieaaMr8
import Derived.Test.YtkjdblbgmomieaaMr9
import Derived.Test.YtkjdblbgmomieaaMr11
import Derived.Test.YtkjdblbgmomieaaMr17
-- from YtkjdblbgmomieaaHSmallS
section
namespace Go.Proofs.Ytkjdblbgmomieaa.PSh
set_option maxHeartbeats 4000000
set_option maxRecDepth 100000
open Go.RowKit Go.Proofs.YtkjdblbgmomieaaW.PrintWords Go.Proofs.YtkjdblbgmomieaaW.PrintLast Go.Proofs.YtkjdblbgmomieaaW.PrintMore Go.Proofs.Ytkjdblbgmomieaa.Str
set_option linter.unusedVariables false
set_option linter.unusedSimpArgs false
def smallS:ByteArray:=⟨#[102,117,110,99,32,109,97,105,110,40,105,32,112,41,32,105,32,123,32,98,48,58,32,37,50,32,61,32,99,111,110,115,116,32,45,53,32,37,51,32,61,32,110,101,119,32,105,112,32,115,116,111,114,101,46,112,32,37,51,32,49,32,37,49,32,98,114,32,98,49,32,98,49,58,32,37,52,32,61,32,112,104,105,46,105,32,98,48,32,37,50,32,98,49,32,37,53,32,37,53,32,61,32,97,100,100,32,37,52,32,37,48,32,37,54,32,61,32,99,97,108,108,46,105,32,64,55,32,102,32,37,51,32,105,102,32,37,54,32,98,49,32,98,50,32,98,50,58,32,111,117,116,32,37,53,32,114,101,116,32,37,53,32,125,32,102,117,110,99,32,102,40,112,41,32,105,32,123,32,98,48,58,32,37,49,32,61,32,108,111,97,100,46,105,32,37,48,32,48,32,114,101,116,32,37,49,32,125]⟩
def l06_Small.f:Option ByteArray:=some smallS
theorem l06_Small.calls (r:ByteArray) (w:World) (h:l06_Small.f=some r):
    Calls Try.prog 29 #[] w fun e w'=>e=.returned (.string r)∧Drawn0 w w':=by
  obtain rfl:=Option.some.inj h
  go_enter Try.func29,Try.ntmps29
  go_wp2
  go_ret
  exact ⟨rfl,Drawn0.refl _⟩
end Go.Proofs.Ytkjdblbgmomieaa.PSh
end
-- from YtkjdblbgmomieaaHPWorks
section
namespace Go.Proofs.Ytkjdblbgmomieaa.PSh
set_option maxHeartbeats 8000000
set_option maxRecDepth 100000
open Go.RowKit Go.Proofs.YtkjdblbgmomieaaW.PrintWords Go.Proofs.YtkjdblbgmomieaaW.PrintLast Go.Proofs.YtkjdblbgmomieaaW.PrintMore Go.Proofs.Ytkjdblbgmomieaa.Str Go.Proofs.Ytkjdblbgmomieaa.Dig Go.Proofs.Ytkjdblbgmomieaa.DigLaw
set_option linter.unusedVariables false
set_option linter.unusedSimpArgs false
def wsR:List SF × Int × Int:=(parse_Text.f smallS).getD ([],1,1)
def wsF:SF:=rd_T34 wsR.1 0
def wsB:List SI:=wsF.f3.getD 1 []
def wsX:SI:=rd_T39 wsB 2
theorem ws_p:parse_Text.f smallS=some (wsR.1,0,0):=by kernel_rfl
theorem ws_len:wsR.1.length=2:=by kernel_rfl
theorem ws_bs:wsF.f3.length=3:=by kernel_rfl
theorem ws_b:wsB.length=4:=by kernel_rfl
theorem ws_x:wsX.f0=21∧wsX.f2=7∧wsX.f6=(⟨#[102]⟩:ByteArray)∧wsX.f4.length=1:=by
  refine ⟨?_,?_,?_,?_⟩<;>kernel_rfl
theorem ws_t0:parse_Text.f (⟨#[102,117,110,99,32,109,97,105,110,40,41,32,110,32,123,32,98,48,58,32,120,32,125]⟩:ByteArray)=some ([],2,20):=by kernel_rfl
theorem ws_t1:parse_Text.f (⟨#[102,117,110,99,32,109,97,105,110,40,41,32,110,32,123,32,98,49,58,32,114,101,116,32,125]⟩:ByteArray)=some ([],7,16):=by kernel_rfl
theorem ws_t2:parse_Text.f (⟨#[102,117,110,99]⟩:ByteArray)=some ([],4,4):=by kernel_rfl
def l06_works.f:Option Bool:=some true
theorem l06_works.calls (r:Bool) (w:World) (h:l06_works.f=some r):Calls Try.prog 20 #[] w fun e w'=>e=.returned (.bool r)∧Below w.heap.size w w':=by
  obtain rfl:=Option.some.inj h
  clear h
  have hu24:=Try.underlying24
  have hu28:=Try.underlying28
  have hu34:=Try.underlying34
  have hu39:=Try.underlying39
  go_enter Try.func20,Try.ntmps20
  go_wp2_with fail
  refine (l06_Small.calls smallS _ rfl).mono ?_
  rintro e w1 ⟨rfl,hd⟩
  have HB1:=aM hd.below
  clear hd
  go_wp2_with fail
  refine (parse_Text.calls smallS _ _ _ _ ws_p).mono ?_
  rintro e v1_ ⟨v_,rfl,hr_,hb_⟩
  obtain ⟨A1,c1,e_,hl1,hC1⟩:=Kd.R_reads hr_
  subst e_
  have HB_:=aM (below_step HB1.out hb_)
  have hq_:=below_alloc (below_alloc (Below.refl v1_.heap.size v1_) (.cells #[.slice A1 wsR.1.length c1] 24)) (.cells #[.int .i64 0,.int .i64 0] 28)
  have HBx1:=aM (below_step HB_.out hq_)
  have k1_:=blk_alloc (blk_new v1_ (.cells #[.slice A1 wsR.1.length c1] 24)) (.cells #[.int .i64 0,.int .i64 0] 28)
  have k2_:=blk_new (v1_.alloc (.cells #[.slice A1 wsR.1.length c1] 24)) (.cells #[.int .i64 0,.int .i64 0] 28)
  rw [show (v1_.alloc (.cells #[.slice A1 wsR.1.length c1] 24)).heap.size=v1_.heap.size+1 by simp] at k2_
  have HC1:=aM (Kd.C_below hC1 hq_)
  have HSn:=aM (below_step hb_ hq_)
  clear hr_ hb_ hC1 hl1 HB_
  go_upto_region 2 with (fail)
  generalize ((v1_.alloc (.cells #[.slice A1 wsR.1.length c1] 24)).alloc (.cells #[.int .i64 0,.int .i64 0] 28))=W1 at *
  clear hq_
  generalize v1_.heap.size+1=be1 at k2_ ⊢
  generalize v1_.heap.size=bp1 at k1_ ⊢
  have HP1:=aM k1_
  have HE1:=aM k2_
  clear k1_ k2_
  go_wp2_with fail
  refine (parse_Text.calls (⟨#[102,117,110,99,32,109,97,105,110,40,41,32,110,32,123,32,98,48,58,32,120,32,125]⟩:ByteArray) _ _ _ _ ws_t0).mono ?_
  rintro e v2_ ⟨v_,rfl,hr_,hb_⟩
  obtain ⟨A2,c2,e_,hl2,hC2⟩:=Kd.R_reads hr_
  subst e_
  have HB_:=aM (below_step HBx1.out hb_)
  have hq_:=below_alloc (below_alloc (Below.refl v2_.heap.size v2_) (.cells #[.slice A2 ([]:List SF).length c2] 24)) (.cells #[.int .i64 2,.int .i64 20] 28)
  have HBx2:=aM (below_step HB_.out hq_)
  have k1_:=blk_alloc (blk_new v2_ (.cells #[.slice A2 ([]:List SF).length c2] 24)) (.cells #[.int .i64 2,.int .i64 20] 28)
  have k2_:=blk_new (v2_.alloc (.cells #[.slice A2 ([]:List SF).length c2] 24)) (.cells #[.int .i64 2,.int .i64 20] 28)
  rw [show (v2_.alloc (.cells #[.slice A2 ([]:List SF).length c2] 24)).heap.size=v2_.heap.size+1 by simp] at k2_
  have HC2:=aM (Kd.C_below hC2 hq_)
  have HSn:=aM (below_step hb_ hq_)
  have HS1:=aM (HSn.out)
  clear hr_ hb_ hC2 hl2 HB_
  go_upto_region 3 with (fail)
  generalize ((v2_.alloc (.cells #[.slice A2 ([]:List SF).length c2] 24)).alloc (.cells #[.int .i64 2,.int .i64 20] 28))=W2 at *
  clear hq_
  generalize v2_.heap.size+1=be2 at k2_ ⊢
  generalize v2_.heap.size=bp2 at k1_ ⊢
  have HP2:=aM k1_
  have HE2:=aM k2_
  clear k1_ k2_
  go_wp2_with fail
  refine (parse_Text.calls (⟨#[102,117,110,99,32,109,97,105,110,40,41,32,110,32,123,32,98,49,58,32,114,101,116,32,125]⟩:ByteArray) _ _ _ _ ws_t1).mono ?_
  rintro e v3_ ⟨v_,rfl,hr_,hb_⟩
  obtain ⟨A3,c3,e_,hl3,hC3⟩:=Kd.R_reads hr_
  subst e_
  have HB_:=aM (below_step HBx2.out hb_)
  have hq_:=below_alloc (below_alloc (Below.refl v3_.heap.size v3_) (.cells #[.slice A3 ([]:List SF).length c3] 24)) (.cells #[.int .i64 7,.int .i64 16] 28)
  have HBx3:=aM (below_step HB_.out hq_)
  have k1_:=blk_alloc (blk_new v3_ (.cells #[.slice A3 ([]:List SF).length c3] 24)) (.cells #[.int .i64 7,.int .i64 16] 28)
  have k2_:=blk_new (v3_.alloc (.cells #[.slice A3 ([]:List SF).length c3] 24)) (.cells #[.int .i64 7,.int .i64 16] 28)
  rw [show (v3_.alloc (.cells #[.slice A3 ([]:List SF).length c3] 24)).heap.size=v3_.heap.size+1 by simp] at k2_
  have HC3:=aM (Kd.C_below hC3 hq_)
  have HSn:=aM (below_step hb_ hq_)
  have HS1:=aM (below_step HS1.out HSn.out)
  have HS2:=aM (HSn.out)
  clear hr_ hb_ hC3 hl3 HB_
  go_upto_region 4 with (fail)
  generalize ((v3_.alloc (.cells #[.slice A3 ([]:List SF).length c3] 24)).alloc (.cells #[.int .i64 7,.int .i64 16] 28))=W3 at *
  clear hq_
  generalize v3_.heap.size+1=be3 at k2_ ⊢
  generalize v3_.heap.size=bp3 at k1_ ⊢
  have HP3:=aM k1_
  have HE3:=aM k2_
  clear k1_ k2_
  go_wp2_with fail
  refine (parse_Text.calls (⟨#[102,117,110,99]⟩:ByteArray) _ _ _ _ ws_t2).mono ?_
  rintro e v4_ ⟨v_,rfl,hr_,hb_⟩
  obtain ⟨A4,c4,e_,hl4,hC4⟩:=Kd.R_reads hr_
  subst e_
  have HB_:=aM (below_step HBx3.out hb_)
  have hq_:=below_alloc (below_alloc (Below.refl v4_.heap.size v4_) (.cells #[.slice A4 ([]:List SF).length c4] 24)) (.cells #[.int .i64 4,.int .i64 4] 28)
  have HBx4:=aM (below_step HB_.out hq_)
  have k1_:=blk_alloc (blk_new v4_ (.cells #[.slice A4 ([]:List SF).length c4] 24)) (.cells #[.int .i64 4,.int .i64 4] 28)
  have k2_:=blk_new (v4_.alloc (.cells #[.slice A4 ([]:List SF).length c4] 24)) (.cells #[.int .i64 4,.int .i64 4] 28)
  rw [show (v4_.alloc (.cells #[.slice A4 ([]:List SF).length c4] 24)).heap.size=v4_.heap.size+1 by simp] at k2_
  have HC4:=aM (Kd.C_below hC4 hq_)
  have HSn:=aM (below_step hb_ hq_)
  have HS1:=aM (below_step HS1.out HSn.out)
  have HS2:=aM (below_step HS2.out HSn.out)
  have HS3:=aM (HSn.out)
  clear hr_ hb_ hC4 hl4 HB_
  go_upto_region 5 with (fail)
  generalize ((v4_.alloc (.cells #[.slice A4 ([]:List SF).length c4] 24)).alloc (.cells #[.int .i64 4,.int .i64 4] 28))=W4 at *
  clear hq_
  generalize v4_.heap.size+1=be4 at k2_ ⊢
  generalize v4_.heap.size=bp4 at k1_ ⊢
  have HP4:=aM k1_
  have HE4:=aM k2_
  clear k1_ k2_
  clear HB1
  obtain ⟨ad,B1,d1,B3,d3,ea,y0,y1,y2,y3,y4,l1,g1,l3,g3⟩:=at_T34 HC1.out 0 (by decide) (by rw [ws_len];decide)
  have ef:rd_T34 wsR.1 0=wsF:=rfl
  rw [ef] at y3 g3
  obtain ⟨ad2,cs,e2,-,hK,hc0⟩:=Kd.C_get g3 ([]:List SI) 1 (by decide) (by rw [ws_bs];decide)
  obtain ⟨A5,c5,rfl,l5,g5⟩:=hK
  have hx2:=hc0 0 _ rfl
  rw [show (1:Int).toNat * (Kd.slice 39 k39).sz+0=1 from rfl] at hx2
  have eb:wsF.f3.getD (1:Int).toNat []=wsB:=rfl
  rw [eb] at hx2 g5
  obtain ⟨ad3,E4,e4,E5,e5,e3,x0,x1,x2,x3,x4,x5,x6,x7,m4,h4,m5,h5⟩:=at_T39 g5 2 (by decide) (by rw [ws_b];decide)
  have ex:rd_T39 wsB 2=wsX:=rfl
  rw [ex] at x0 x1 x2 x3 x4 x5 x6 x7
  rw [ws_x.1] at x0
  rw [ws_x.2.1] at x2
  rw [ws_x.2.2.1] at x6
  rw [ws_x.2.2.2] at x4
  rw [ws_b,e3] at hx2
  rw [ws_bs,e2] at y3
  have s34:Below W1.heap.size W1 W4:=HS1.out
  have y3:W4.cell? ⟨ad.block,ad.off+3,none⟩=_:=pw_cell_below s34 y3
  have hx2:W4.cell? ⟨ad2.block,ad2.off+1,none⟩=_:=pw_cell_below s34 hx2
  have x0:W4.cell? ⟨ad3.block,ad3.off+16,none⟩=_:=pw_cell_below s34 x0
  have x1:W4.cell? ⟨ad3.block,ad3.off+16+1,none⟩=_:=pw_cell_below s34 x1
  have x2:W4.cell? ⟨ad3.block,ad3.off+16+2,none⟩=_:=pw_cell_below s34 x2
  have x3:W4.cell? ⟨ad3.block,ad3.off+16+3,none⟩=_:=pw_cell_below s34 x3
  have x4:W4.cell? ⟨ad3.block,ad3.off+16+4,none⟩=_:=pw_cell_below s34 x4
  have x5:W4.cell? ⟨ad3.block,ad3.off+16+5,none⟩=_:=pw_cell_below s34 x5
  have x6:W4.cell? ⟨ad3.block,ad3.off+16+6,none⟩=_:=pw_cell_below s34 x6
  have x7:W4.cell? ⟨ad3.block,ad3.off+16+7,none⟩=_:=pw_cell_below s34 x7
  have hP1:=blk_below HP1.out s34
  have hE1:=blk_below HE1.out s34
  have hE2:=blk_below HE2.out HS2.out
  have hE3:=blk_below HE3.out HS3.out
  rw [ws_len,ea] at hP1
  have p0:=blk_cell hP1 0
  have q0:=blk_cell hE1 0
  have HF2:=aM hE2
  have HF3:=aM hE3
  clear hP1 hE1 hE2 hE3 s34 l1 g1 l3 g3 l5 g5 m4 h4 m5 h5 hc0 ea e2 e3 ef eb ex y0 y1 y2 y4
  have hbx:=blk_new W4 (.cells #[.int .i64 21,.int .i64 wsX.f1,.int .i64 7,.int .i64 wsX.f3,.slice E4 1 e4,.slice E5 wsX.f5.length e5,.string (⟨#[102]⟩:ByteArray),.int .i64 wsX.f7] 39)
  have hbb:=below_alloc (Below.refl W4.heap.size W4) (.cells #[.int .i64 21,.int .i64 wsX.f1,.int .i64 7,.int .i64 wsX.f3,.slice E4 1 e4,.slice E5 wsX.f5.length e5,.string (⟨#[102]⟩:ByteArray),.int .i64 wsX.f7] 39)
  have HBZ:=aM (below_step HBx4.out hbb)
  have HBX:=aM hbx
  have HF2:=aM (blk_below HF2.out hbb)
  have HF3:=aM (blk_below HF3.out hbb)
  have HF4:=aM (blk_below HE4.out hbb)
  clear hbx hbb
  go_upto_region 8 with (fail)
  clear y3 hx2 x0 x1 x2 x3 x4 x5 x6 x7 p0 q0
  generalize W4.alloc (.cells _ 39)=W5 at HBZ HBX HF2 HF3 HF4 ⊢
  have r0:=blk_cell HBX.out 0
  have r2:=blk_cell HBX.out 2
  have r4:=blk_cell HBX.out 4
  have r6:=blk_cell HBX.out 6
  have u0:=blk_cell HF2.out 0
  have u1:=blk_cell HF2.out 1
  have v0:=blk_cell HF3.out 0
  have v1:=blk_cell HF3.out 1
  have w0:=blk_cell HF4.out 0
  have w1_:=blk_cell HF4.out 1
  go_wp2
  (try simp only [Exit.inBlock,Exit.then])
  go_ret
  exact ⟨rfl,HBZ.out⟩
end Go.Proofs.Ytkjdblbgmomieaa.PSh
end
-- from YtkjdblbgmomieaaPLaw
section
namespace Go.Proofs.Ytkjdblbgmomieaa.PSh
open Go.RowKit Go.Proofs.YtkjdblbgmomieaaW.PrintWords Go.Proofs.YtkjdblbgmomieaaW.PrintLast Go.Proofs.YtkjdblbgmomieaaW.PrintMore Go.Proofs.Ytkjdblbgmomieaa.Str
set_option linter.unusedVariables false
set_option linter.unusedSimpArgs false
theorem ref_name_loop:∀ (rest pre:List UInt8),(pre++rest).length≤4611686018427387904→Ev (fun k=>r02_Name.l0 k (mk (pre++rest)) (pre.length:Int)) (nameFrom pre.length rest):=by
  intro rest
  induction rest with
  | nil=>
    intro pre _
    exact Ev.step (f:=fun _=>some true) (fun k=>by simp only [r02_Name.l0];rw [if_neg (by rw [mk_size];simp)]) (Ev.now _)
  | cons c rest ih=>
    intro pre hl
    have hsz:(pre.length:Int)<((mk (pre++c::rest)).size:Int):=by rw [mk_size];simp;omega
    have hw:wrap64 ((pre.length:Int)+1)=((pre++[c]).length:Int):=by
      rw [w64 (by omega) (by simp at hl;omega)];simp
    have hpre:pre++c::rest=(pre++[c])++rest:=by simp
    refine Ev.step (f:=fun k=>if nameC pre.length c=true then r02_Name.l0 k (mk ((pre++[c])++rest)) ((pre++[c]).length:Int) else some false) (fun k=>?_) ?_
    · simp only [r02_Name.l0]
      rw [if_pos hsz,if_pos (by omega),bt_pre,hw,← hpre]
      generalize r02_Name.l0 k (mk (pre++c::rest)) ((pre++[c]).length:Int)=z
      unfold nameC
      have q6:((pre.length:Int)=0)=(pre.length=0):=by simp
      have q5:((c.toNat:Int)=95)=(c.toNat=95):=by apply propext;omega
      have q1:((c.toNat:Int)≥97)=(97≤c.toNat):=by apply propext;omega
      have q2:((c.toNat:Int)≥48)=(48≤c.toNat):=by apply propext;omega
      have q3:((c.toNat:Int)≤122)=(c.toNat≤122):=by apply propext;omega
      have q4:((c.toNat:Int)≤57)=(c.toNat≤57):=by apply propext;omega
      simp only [q1,q2,q3,q4,q5,q6]
      by_cases p1:97≤c.toNat<;>by_cases p2:48≤c.toNat<;>by_cases p3:c.toNat≤122<;>by_cases p4:c.toNat≤57<;>by_cases p5:c.toNat=95<;>by_cases p6:pre.length=0<;>first | (exfalso;omega) | simp [p1,p2,p3,p4,p5,p6]
    · have e:nameFrom pre.length (c::rest)=(nameC pre.length c && nameFrom (pre++[c]).length rest):=by rw [nameFrom];simp
      rw [e]
      refine ev_if (fun h=>?_) (fun h=>?_)
      · rw [h,Bool.true_and];exact ih (pre++[c]) (by rw [← hpre];exact hl)
      · have:nameC pre.length c=false:=by simpa using h
        rw [this,Bool.false_and];exact Ev.now _
theorem ref_name_ev (l:List UInt8) (hl:l.length≤4611686018427387904):Ev (fun k=>r02_Name.f k (mk l)) (nameL l):=by
  unfold r02_Name.f
  rw [mk_size]
  have j:∀ b:Bool,(b=true→nameL l=false)→(b=false→nameL l=nameFrom 0 l)→Ev (fun k=>r02_Name.j0 k (mk l) b) (nameL l):=by
    intro b h1 h2
    cases b with
    | true=>rw [h1 rfl];exact Ev.step (f:=fun _=>some false) (fun k=>by simp [r02_Name.j0]) (Ev.now _)
    | false=>rw [h2 rfl];exact Ev.step (f:=fun k=>r02_Name.l0 k (mk ([]++l)) (([]:List UInt8).length:Int)) (fun k=>by simp [r02_Name.j0]) (ref_name_loop l [] hl)
  refine ev_if (fun h=>?_) (fun h=>?_)
  · have:l=[]:=List.length_eq_zero_iff.1 (by omega)
    subst this
    exact j true (fun _=>rfl) (fun e=>by cases e)
  · have hne:l.isEmpty=false:=by cases l with
      | nil=>simp at h
      | cons _ _=>rfl
    refine j _ (fun e=>?_) (fun e=>?_)
    · have:¬ l.length≤24:=by have:=of_decide_eq_true e;omega
      simp [nameL,this]
    · have:l.length≤24:=by have:=of_decide_eq_false e;omega
      simp [nameL,this,hne]
theorem drop_cons_ {α:Type} (l:List α) (x:Int) (z:α) (h0:0≤x) (h1:x<(l.length:Int)):l.drop x.toNat=l.getD x.toNat z::l.drop (x+1).toNat:=by
  have h:x.toNat<l.length:=by omega
  rw [List.drop_eq_getElem_cons h,show (x+1).toNat=x.toNat+1 by omega,List.getD_eq_getElem?_getD,List.getElem?_eq_getElem h]
  rfl
end Go.Proofs.Ytkjdblbgmomieaa.PSh
end
-- from YtkjdblbgmomieaaHSamI
section
namespace Go.Proofs.Ytkjdblbgmomieaa.PSh
set_option maxHeartbeats 8000000
set_option maxRecDepth 100000
open Go.RowKit Go.Proofs.YtkjdblbgmomieaaW.PrintWords Go.Proofs.YtkjdblbgmomieaaW.PrintLast Go.Proofs.YtkjdblbgmomieaaW.PrintMore Go.Proofs.Ytkjdblbgmomieaa.Str
set_option linter.unusedVariables false
set_option linter.unusedSimpArgs false
theorem ints_calls (l:List Int) (A0 A1:Option Addr) (c0 c1:Nat) (w:World) (hr0:(Kd.int .i64).C w A0 l.length l) (hr1:(Kd.int .i64).C w A1 l.length l):
    Calls Try.prog 89 #[.slice A0 l.length c0,.slice A1 l.length c1] w fun e w'=>e=.returned (.bool true)∧Below w.heap.size w w':=by
  have HR0:=aM hr0
  have HR1:=aM hr1
  have HM:=aM (Kd.C_max hr0)
  have n0:((l.length:Int) !=(l.length:Int))=false:=bne_self_eq_false ..
  clear hr0 hr1
  go_enter Try.func89,Try.ntmps89
  go_wp2
  repeat (go_quiet (fail);try go_wp2)
  (try simp only [Act.put,qA,qB,qC])
  go_loopg [5] l.length (fun kq v5 w'=>∃ i:Int,v5=.int .i64 i∧Aside0 (0≤i∧i≤(l.length:Int))∧Aside0 (Below w.heap.size w w')∧Aside0 (kq=l.length - i.toNat))
  case atStart=>exact ⟨0,rfl,⟨by omega⟩,⟨by first | exact Below.refl _ _ | exact pw_below_drewN (Below.refl _ _) _⟩,⟨rfl⟩⟩
  case round=>
    obtain ⟨i,rfl,HI,HB,HK⟩:=hrel
    clear n0
    by_cases hp:i<(l.length:Int)
    · have dd:decide (i<(l.length:Int))=true:=decide_eq_true hp
      obtain ⟨ad,e,x⟩:=Kd.at_int (Kd.C_below HR0.out HB.out) i HI.out.1 hp
      cases e
      obtain ⟨ad',e,x'⟩:=Kd.at_int (Kd.C_below HR1.out HB.out) i HI.out.1 hp
      cases e
      have p:=eq_true HI.out.1
      have q:=eq_true hp
      generalize rd l i=z at x x'
      have n1:(z !=z)=false:=bne_self_eq_false ..
      have HP:=aM hp
      clear hp
      go_wp2
      repeat (go_quiet (fail);try go_wp2)
      clear p q x x' n1 dd
      go_roundg (l.length - (i+1).toNat)
      case measure=>have:=HK.out;have:=HP.out;have:=HI.out;omega
      case rel=>exact ⟨i+1,by rw [show wrap64 (i+1)=i+1 from w64 (by have:=HI.out;omega) (by have:=HP.out;have:=HM.out;omega)],⟨by have:=HI.out;have:=HP.out;omega⟩,⟨by first | exact HB.out | exact pw_below_drewN HB.out _⟩,⟨rfl⟩⟩
    · have dd:decide (i<(l.length:Int))=false:=decide_eq_false hp
      clear hp
      go_wp2
      (try simp only [Exit.inBlock,Exit.then])
      go_ret
      exact ⟨rfl,HB.out⟩
theorem same_calls (op id n ty ax ay:Int) (l4 l5:List Int) (nm:ByteArray) (A4 A5 B4 B5:Option Addr) (c4 c5 d4 d5:Nat) (w:World) (h4:(Kd.int .i64).C w A4 l4.length l4) (h5:(Kd.int .i64).C w A5 l5.length l5) (g4:(Kd.int .i64).C w B4 l4.length l4) (g5:(Kd.int .i64).C w B5 l5.length l5):
    Calls Try.prog 90 #[.agg #[.int .i64 op,.int .i64 id,.int .i64 n,.int .i64 ty,.slice A4 l4.length c4,.slice A5 l5.length c5,.string nm,.int .i64 ax],.agg #[.int .i64 op,.int .i64 id,.int .i64 n,.int .i64 ty,.slice B4 l4.length d4,.slice B5 l5.length d5,.string nm,.int .i64 ay]] w fun e w'=>e=.returned (.bool true)∧Below w.heap.size w w':=by
  have hu39:=Try.underlying39
  have hq_:=below_alloc (below_alloc (Below.refl w.heap.size w) (.cells #[.int .i64 op,.int .i64 id,.int .i64 n,.int .i64 ty,.slice A4 l4.length c4,.slice A5 l5.length c5,.string nm,.int .i64 ax] 39)) (.cells #[.int .i64 op,.int .i64 id,.int .i64 n,.int .i64 ty,.slice B4 l4.length d4,.slice B5 l5.length d5,.string nm,.int .i64 ay] 39)
  have HB1:=aM hq_
  have H4:=aM (Kd.C_below h4 hq_)
  have H5:=aM (Kd.C_below h5 hq_)
  have G4:=aM (Kd.C_below g4 hq_)
  have G5:=aM (Kd.C_below g5 hq_)
  clear h4 h5 g4 g5 hq_
  go_enter Try.func90,Try.ntmps90
  have k1_:=blk_alloc (blk_new w (.cells #[.int .i64 op,.int .i64 id,.int .i64 n,.int .i64 ty,.slice A4 l4.length c4,.slice A5 l5.length c5,.string nm,.int .i64 ax] 39)) (.cells #[.int .i64 op,.int .i64 id,.int .i64 n,.int .i64 ty,.slice B4 l4.length d4,.slice B5 l5.length d5,.string nm,.int .i64 ay] 39)
  have k2_:=blk_new (w.alloc (.cells #[.int .i64 op,.int .i64 id,.int .i64 n,.int .i64 ty,.slice A4 l4.length c4,.slice A5 l5.length c5,.string nm,.int .i64 ax] 39)) (.cells #[.int .i64 op,.int .i64 id,.int .i64 n,.int .i64 ty,.slice B4 l4.length d4,.slice B5 l5.length d5,.string nm,.int .i64 ay] 39)
  rw [show (w.alloc (.cells #[.int .i64 op,.int .i64 id,.int .i64 n,.int .i64 ty,.slice A4 l4.length c4,.slice A5 l5.length c5,.string nm,.int .i64 ax] 39)).heap.size=w.heap.size+1 by simp] at k2_
  go_upto_region 1 with (fail)
  generalize ((w.alloc (.cells #[.int .i64 op,.int .i64 id,.int .i64 n,.int .i64 ty,.slice A4 l4.length c4,.slice A5 l5.length c5,.string nm,.int .i64 ax] 39)).alloc (.cells #[.int .i64 op,.int .i64 id,.int .i64 n,.int .i64 ty,.slice B4 l4.length d4,.slice B5 l5.length d5,.string nm,.int .i64 ay] 39))=W1 at k1_ k2_ HB1 H4 H5 G4 G5 ⊢
  generalize w.heap.size+1=b1 at k2_ ⊢
  generalize hb0:w.heap.size=b0 at k1_ ⊢
  have y0:=blk_cell k1_ 0
  have z0:=blk_cell k2_ 0
  have y1:=blk_cell k1_ 1
  have z1:=blk_cell k2_ 1
  have y2:=blk_cell k1_ 2
  have z2:=blk_cell k2_ 2
  have y3:=blk_cell k1_ 3
  have z3:=blk_cell k2_ 3
  have y4:=blk_cell k1_ 4
  have z4:=blk_cell k2_ 4
  have y5:=blk_cell k1_ 5
  have z5:=blk_cell k2_ 5
  have y6:=blk_cell k1_ 6
  have z6:=blk_cell k2_ 6
  have y7:=blk_cell k1_ 7
  have z7:=blk_cell k2_ 7
  have n0:(op !=op)=false:=bne_self_eq_false ..
  have n1:(id !=id)=false:=bne_self_eq_false ..
  have n2:(n !=n)=false:=bne_self_eq_false ..
  have n3:(ty !=ty)=false:=bne_self_eq_false ..
  have n6:(nm.toList !=nm.toList)=false:=bne_self_eq_false ..
  have K1:=aM k1_
  have K2:=aM k2_
  clear k1_ k2_
  go_wp2_with fail
  refine (ints_calls l4 _ _ _ _ _ H4.out G4.out).mono ?_
  rintro e w2 ⟨rfl,hb_⟩
  have HB2:=aM (below_step HB1.out hb_)
  have K3:=aM (blk_below K1.out hb_)
  have K4:=aM (blk_below K2.out hb_)
  have H6:=aM (Kd.C_below H5.out hb_)
  have G6:=aM (Kd.C_below G5.out hb_)
  clear hb_ y0 y1 y2 y3 y4 y5 y6 y7 z0 z1 z2 z3 z4 z5 z6 z7 K1 K2 HB1
  have y5:=blk_cell K3.out 5
  have z5:=blk_cell K4.out 5
  go_wp2_with fail
  refine (ints_calls l5 _ _ _ _ _ H6.out G6.out).mono ?_
  rintro e w3 ⟨rfl,hb_⟩
  have HB3:=aM (below_step HB2.out hb_)
  clear hb_
  go_wp2
  (try simp only [Exit.inBlock,Exit.then])
  go_ret
  exact ⟨rfl,HB3.out⟩
end Go.Proofs.Ytkjdblbgmomieaa.PSh
end
-- from YtkjdblbgmomieaaPSim
section
namespace Go.Proofs.Ytkjdblbgmomieaa.PSh
open Go.RowKit Go.Proofs.YtkjdblbgmomieaaW.PrintWords Go.Proofs.YtkjdblbgmomieaaW.PrintLast Go.Proofs.YtkjdblbgmomieaaW.PrintMore Go.Proofs.Ytkjdblbgmomieaa.Str Go.Proofs.Ytkjdblbgmomieaa.Dig Go.Proofs.Ytkjdblbgmomieaa.DigLaw
set_option linter.unusedVariables false
set_option linter.unusedSimpArgs false
section
variable {us : List ByteArray} {ts ts' : List Tk} {en en' : Int}
end
end Go.Proofs.Ytkjdblbgmomieaa.PSh
end
-- from YtkjdblbgmomieaaPSimF
section
namespace Go.Proofs.Ytkjdblbgmomieaa.PSh
open Go.RowKit Go.Proofs.YtkjdblbgmomieaaW.PrintWords Go.Proofs.YtkjdblbgmomieaaW.PrintLast Go.Proofs.YtkjdblbgmomieaaW.PrintMore Go.Proofs.Ytkjdblbgmomieaa.Str Go.Proofs.Ytkjdblbgmomieaa.Dig Go.Proofs.Ytkjdblbgmomieaa.DigLaw
set_option linter.unusedVariables false
set_option linter.unusedSimpArgs false
section
variable {us : List ByteArray} {ts ts' : List Tk} {en en' : Int}
def nrm (x:SI):SI:={ x with f7:=0 }
def r3 {α β:Type} (a:α × β × List Tk):List Tk:=a.2.2
def r4 {α β δ:Type} (a:α × β × δ × List Tk):List Tk:=a.2.2.2
def nrmF (f:SF):SF:=⟨f.f0,f.f1,f.f2,f.f3.map (List.map nrm),0⟩
end
end Go.Proofs.Ytkjdblbgmomieaa.PSh
end
-- from YtkjdblbgmomieaaHSamP
section
namespace Go.Proofs.Ytkjdblbgmomieaa.PSh
set_option maxHeartbeats 8000000
set_option maxRecDepth 100000
open Go.RowKit Go.Proofs.YtkjdblbgmomieaaW.PrintWords Go.Proofs.YtkjdblbgmomieaaW.PrintLast Go.Proofs.YtkjdblbgmomieaaW.PrintMore Go.Proofs.Ytkjdblbgmomieaa.Str
set_option linter.unusedVariables false
set_option linter.unusedSimpArgs false
theorem nrm_eq {x y:SI} (h:nrm x=nrm y):x.f0=y.f0∧x.f1=y.f1∧x.f2=y.f2∧x.f3=y.f3∧x.f4=y.f4∧x.f5=y.f5∧x.f6=y.f6:=by
  cases x;cases y
  simp only [nrm,S39.mk.injEq] at h
  obtain ⟨h0,h1,h2,h3,h4,h5,h6,-⟩:=h
  exact ⟨h0,h1,h2,h3,h4,h5,h6⟩
theorem map_get {α β:Type} {f:α→β} {l l':List α} (h:l.map f=l'.map f) (z:α) (n:Nat):f (l.getD n z)=f (l'.getD n z):=by
  have h1:∀ l:List α,f (l.getD n z)=(l.map f).getD n (f z):=fun l=>by
    rw [List.getD_eq_getElem?_getD,List.getD_eq_getElem?_getD,List.getElem?_map]
    cases l[n]?<;>rfl
  rw [h1,h1,h]
theorem samef_calls (nm:ByteArray) (ps:List Int) (rt ax ay:Int) (bs cs:List (List SI)) (A1 A3 B1 B3:Option Addr) (c1 c3 d1 d3:Nat) (w:World) (h1:(Kd.int .i64).C w A1 ps.length ps) (g1:(Kd.int .i64).C w B1 ps.length ps) (h3:(Kd.slice 39 k39).C w A3 bs.length bs) (g3:(Kd.slice 39 k39).C w B3 bs.length cs) (hE:bs.map (List.map nrm)=cs.map (List.map nrm)):
    Calls Try.prog 64 #[.agg #[.string nm,.slice A1 ps.length c1,.int .i64 rt,.slice A3 bs.length c3,.int .i64 ax],.agg #[.string nm,.slice B1 ps.length d1,.int .i64 rt,.slice B3 bs.length d3,.int .i64 ay]] w fun e w'=>e=.returned (.bool true)∧Below w.heap.size w w':=by
  have hu34:=Try.underlying34
  have hu39:=Try.underlying39
  have hq_:=below_alloc (below_alloc (Below.refl w.heap.size w) (.cells #[.string nm,.slice A1 ps.length c1,.int .i64 rt,.slice A3 bs.length c3,.int .i64 ax] 34)) (.cells #[.string nm,.slice B1 ps.length d1,.int .i64 rt,.slice B3 bs.length d3,.int .i64 ay] 34)
  have HB1:=aM hq_
  have H1:=aM (Kd.C_below h1 hq_)
  have G1:=aM (Kd.C_below g1 hq_)
  have H3:=aM (Kd.C_below h3 hq_)
  have G3:=aM (Kd.C_below g3 hq_)
  have HM:=aM (Kd.C_max h3)
  have HE:=aM hE
  clear h1 g1 h3 g3 hq_ hE
  go_enter Try.func64,Try.ntmps64
  have k1_:=blk_alloc (blk_new w (.cells #[.string nm,.slice A1 ps.length c1,.int .i64 rt,.slice A3 bs.length c3,.int .i64 ax] 34)) (.cells #[.string nm,.slice B1 ps.length d1,.int .i64 rt,.slice B3 bs.length d3,.int .i64 ay] 34)
  have k2_:=blk_new (w.alloc (.cells #[.string nm,.slice A1 ps.length c1,.int .i64 rt,.slice A3 bs.length c3,.int .i64 ax] 34)) (.cells #[.string nm,.slice B1 ps.length d1,.int .i64 rt,.slice B3 bs.length d3,.int .i64 ay] 34)
  rw [show (w.alloc (.cells #[.string nm,.slice A1 ps.length c1,.int .i64 rt,.slice A3 bs.length c3,.int .i64 ax] 34)).heap.size=w.heap.size+1 by simp] at k2_
  go_upto_region 1 with (fail)
  generalize ((w.alloc (.cells #[.string nm,.slice A1 ps.length c1,.int .i64 rt,.slice A3 bs.length c3,.int .i64 ax] 34)).alloc (.cells #[.string nm,.slice B1 ps.length d1,.int .i64 rt,.slice B3 bs.length d3,.int .i64 ay] 34))=W1 at k1_ k2_ HB1 H1 G1 H3 G3 ⊢
  generalize w.heap.size+1=b1 at k2_ ⊢
  generalize hb0:w.heap.size=b0 at k1_ ⊢
  have y0:=blk_cell k1_ 0
  have z0:=blk_cell k2_ 0
  have y1:=blk_cell k1_ 1
  have z1:=blk_cell k2_ 1
  have y2:=blk_cell k1_ 2
  have z2:=blk_cell k2_ 2
  have y3:=blk_cell k1_ 3
  have z3:=blk_cell k2_ 3
  have y4:=blk_cell k1_ 4
  have z4:=blk_cell k2_ 4
  have n0:(nm.toList !=nm.toList)=false:=bne_self_eq_false ..
  have n1:(rt !=rt)=false:=bne_self_eq_false ..
  have n2:((bs.length:Int) !=(bs.length:Int))=false:=bne_self_eq_false ..
  have K1:=aM k1_
  have K2:=aM k2_
  clear k1_ k2_
  go_wp2_with fail
  refine (ints_calls ps _ _ _ _ _ H1.out G1.out).mono ?_
  rintro e v1 ⟨rfl,hb_⟩
  have HB2:=aM (below_step HB1.out hb_)
  have HQ0:=aM (blk_below K1.out hb_)
  have HQ1:=aM (blk_below K2.out hb_)
  have HY0:=aM (Kd.C_below H3.out hb_)
  have HY1:=aM (Kd.C_below G3.out hb_)
  clear hb_ y0 y1 y2 y3 y4 z0 z1 z2 z3 z4 K1 K2 HB1 H1 G1 H3 G3
  have y3:=blk_cell HQ0.out 3
  have z3:=blk_cell HQ1.out 3
  go_upto_region 3 with (fail)
  clear y3 z3 n0 n1 n2
  go_wp2
  (try simp only [Act.put,qA,qB,qC])
  go_loopg [5] bs.length (fun kq v5 w'=>∃ i:Int,v5=.int .i64 i∧Aside0 (0≤i∧i≤(bs.length:Int))∧Aside0 (Below v1.heap.size v1 w')∧Aside0 (kq=bs.length - i.toNat))
  case atStart=>exact ⟨0,rfl,⟨by omega⟩,⟨Below.refl _ _⟩,⟨rfl⟩⟩
  case round=>
    obtain ⟨i,rfl,HI,HB,HK⟩:=hrel
    by_cases hp:i<(bs.length:Int)
    · have dd:decide (i<(bs.length:Int))=true:=decide_eq_true hp
      obtain ⟨ad,A5,c5,e,x,l5,g5⟩:=at_L4 HY0.out i HI.out.1 hp
      cases e
      obtain ⟨ad',B5,d5,e,x',l5',g5'⟩:=at_L4 HY1.out i HI.out.1 hp
      cases e
      have hN:(rd_L4 bs i).map nrm=(rd_L4 cs i).map nrm:=map_get HE.out ([]:List SI) i.toNat
      have hlen:(rd_L4 cs i).length=(rd_L4 bs i).length:=by have:=congrArg List.length hN;simpa using this.symm
      rw [hlen] at x' l5' g5'
      generalize rd_L4 bs i=bl at x l5 g5 x' l5' g5' hN hlen
      generalize rd_L4 cs i=cl at g5' hN hlen
      have HX:=aM x
      have HX':=aM x'
      have HG5:=aM g5
      have HG5':=aM g5'
      have HM5:=aM (Kd.C_max g5)
      have HN:=aM hN
      have HP:=aM hp
      replace x:=pw_cell_below HB.out x
      replace x':=pw_cell_below HB.out x'
      have p:=eq_true HI.out.1
      have q:=eq_true hp
      have y:wr.cell? ⟨b0,3,none⟩=some (.slice (some ad) bs.length c3):=(blk_cell (blk_below HQ0.out HB.out) 3).trans rfl
      have y':wr.cell? ⟨b1,3,none⟩=some (.slice (some ad') bs.length d3):=(blk_cell (blk_below HQ1.out HB.out) 3).trans rfl
      have f0:=blk_frozen (blk_below HQ0.out HB.out) 3
      have f1:=blk_frozen (blk_below HQ1.out HB.out) 3
      have n1:((bl.length:Int) !=(bl.length:Int))=false:=bne_self_eq_false ..
      clear hp l5 g5 l5' g5' hN hlen
      go_wp2
      repeat (go_quiet (fail);try go_wp2)
      clear f0 f1 y y' x x' n1 dd p q
      (try simp only [Act.put,qA,qB,qC])
      go_loopg [6] bl.length (fun kq v6 w'=>∃ m:Int,v6=.int .i64 m∧Aside0 (0≤m∧m≤(bl.length:Int))∧Aside0 (Below v1.heap.size v1 w')∧Aside0 (kq=bl.length - m.toNat))
      case atStart=>exact ⟨0,rfl,⟨by omega⟩,⟨by first | exact HB.out | exact pw_below_drewN HB.out _⟩,⟨rfl⟩⟩
      case round=>
        clear HB
        obtain ⟨m,rfl,HMI,HB,HKM⟩:=hrel
        have y:wr.cell? ⟨b0,3,none⟩=some (.slice (some ad) bs.length c3):=(blk_cell (blk_below HQ0.out HB.out) 3).trans rfl
        have x:=pw_cell_below HB.out HX.out
        have p:=eq_true HI.out.1
        have q:=eq_true HP.out
        by_cases hm:m<(bl.length:Int)
        · have dm:decide (m<(bl.length:Int))=true:=decide_eq_true hm
          go_upto_region 11 with (fail)
          clear y x dm
          obtain ⟨a3,E4,e4,E5,e5,e3,x0,x1,x2,x3,x4,x5,x6,x7,-,h4,-,h5⟩:=at_T39 HG5.out m HMI.out.1 hm
          obtain ⟨a3',F4,f4,F5,f5,e3',x0',x1',x2',x3',x4',x5',x6',x7',-,h4',-,h5'⟩:=at_T39 HG5'.out m HMI.out.1 hm
          cases e3
          cases e3'
          obtain ⟨q0,q1,q2,q3,q4,q5,q6⟩:=nrm_eq (show nrm (rd_T39 bl m)=nrm (rd_T39 cl m) from map_get HN.out z39 m.toNat)
          rw [← q0] at x0'
          rw [← q1] at x1'
          rw [← q2] at x2'
          rw [← q3] at x3'
          rw [← q4] at x4' h4'
          rw [← q5] at x5' h5'
          rw [← q6] at x6'
          clear q0 q1 q2 q3 q4 q5 q6
          generalize (rd_T39 cl m).f7=ay at x7'
          generalize rd_T39 bl m=o at x0 x1 x2 x3 x4 x5 x6 x7 x0' x1' x2' x3' x4' x5' x6' h4 h5 h4' h5'
          have pm:=eq_true HMI.out.1
          have qm:=eq_true hm
          have HM2:=aM hm
          have HX0:=aM (And.intro x0 (And.intro x1 (And.intro x2 (And.intro x3 (And.intro x4 (And.intro x5 (And.intro x6 x7)))))))
          have HX1:=aM (And.intro x0' (And.intro x1' (And.intro x2' (And.intro x3' (And.intro x4' (And.intro x5' (And.intro x6' x7')))))))
          have HC4:=aM h4
          have HC5:=aM h5
          have HD4:=aM h4'
          have HD5:=aM h5'
          have HW0:=aM (below_drew1 HB.out)
          clear hm x0 x1 x2 x3 x4 x5 x6 x7 x0' x1' x2' x3' x4' x5' x6' x7' h4 h5 h4' h5'
          refine start_ (n:=18) (S:=fun w'=>w'.cell? ⟨b0,3,none⟩=some (.slice (some ad) bs.length c3)∧w'.cell? ⟨b1,3,none⟩=some (.slice (some ad') bs.length d3)∧w'.cell? (ad.add i.toNat)=some (.slice (some a3) bl.length c5)∧w'.cell? (ad'.add i.toNat)=some (.slice (some a3') bl.length d5)∧w'.cell? (a3.add (m.toNat * 8))=some (.int .i64 o.f0)∧w'.cell? ⟨(a3.add (m.toNat * 8)).block,(a3.add (m.toNat * 8)).off+1,none⟩=some (.int .i64 o.f1)∧w'.cell? ⟨(a3.add (m.toNat * 8)).block,(a3.add (m.toNat * 8)).off+2,none⟩=some (.int .i64 o.f2)∧w'.cell? ⟨(a3.add (m.toNat * 8)).block,(a3.add (m.toNat * 8)).off+3,none⟩=some (.int .i64 o.f3)∧w'.cell? ⟨(a3.add (m.toNat * 8)).block,(a3.add (m.toNat * 8)).off+4,none⟩=some (.slice E4 o.f4.length e4)∧w'.cell? ⟨(a3.add (m.toNat * 8)).block,(a3.add (m.toNat * 8)).off+5,none⟩=some (.slice E5 o.f5.length e5)∧w'.cell? ⟨(a3.add (m.toNat * 8)).block,(a3.add (m.toNat * 8)).off+6,none⟩=some (.string o.f6)∧w'.cell? ⟨(a3.add (m.toNat * 8)).block,(a3.add (m.toNat * 8)).off+7,none⟩=some (.int .i64 o.f7)∧w'.cell? (a3'.add (m.toNat * 8))=some (.int .i64 o.f0)∧w'.cell? ⟨(a3'.add (m.toNat * 8)).block,(a3'.add (m.toNat * 8)).off+1,none⟩=some (.int .i64 o.f1)∧w'.cell? ⟨(a3'.add (m.toNat * 8)).block,(a3'.add (m.toNat * 8)).off+2,none⟩=some (.int .i64 o.f2)∧w'.cell? ⟨(a3'.add (m.toNat * 8)).block,(a3'.add (m.toNat * 8)).off+3,none⟩=some (.int .i64 o.f3)∧w'.cell? ⟨(a3'.add (m.toNat * 8)).block,(a3'.add (m.toNat * 8)).off+4,none⟩=some (.slice F4 o.f4.length f4)∧w'.cell? ⟨(a3'.add (m.toNat * 8)).block,(a3'.add (m.toNat * 8)).off+5,none⟩=some (.slice F5 o.f5.length f5)∧w'.cell? ⟨(a3'.add (m.toNat * 8)).block,(a3'.add (m.toNat * 8)).off+6,none⟩=some (.string o.f6)∧w'.cell? ⟨(a3'.add (m.toNat * 8)).block,(a3'.add (m.toNat * 8)).off+7,none⟩=some (.int .i64 ay)) (ds:=[]) #[false,false,false,false,false,false,false,false,false,false,false,false,false,false,false,false,false,false] (by kernel_rfl) rfl rfl ⟨((blk_cell (blk_below HQ0.out HW0.out) 3).trans rfl),((blk_cell (blk_below HQ1.out HW0.out) 3).trans rfl),(pw_cell_below HW0.out HX.out),(pw_cell_below HW0.out HX'.out),(pw_cell_below HW0.out HX0.out.1),(pw_cell_below HW0.out HX0.out.2.1),(pw_cell_below HW0.out HX0.out.2.2.1),(pw_cell_below HW0.out HX0.out.2.2.2.1),(pw_cell_below HW0.out HX0.out.2.2.2.2.1),(pw_cell_below HW0.out HX0.out.2.2.2.2.2.1),(pw_cell_below HW0.out HX0.out.2.2.2.2.2.2.1),(pw_cell_below HW0.out HX0.out.2.2.2.2.2.2.2),(pw_cell_below HW0.out HX1.out.1),(pw_cell_below HW0.out HX1.out.2.1),(pw_cell_below HW0.out HX1.out.2.2.1),(pw_cell_below HW0.out HX1.out.2.2.2.1),(pw_cell_below HW0.out HX1.out.2.2.2.2.1),(pw_cell_below HW0.out HX1.out.2.2.2.2.2.1),(pw_cell_below HW0.out HX1.out.2.2.2.2.2.2.1),(pw_cell_below HW0.out HX1.out.2.2.2.2.2.2.2)⟩ (fun hHeld=>?_)
          refine pure_ (i:=0) (N:=some 66) (v:=?_) (a':=?_) #[true,false,false,false,false,false,false,false,false,false,false,false,false,false,false,false,false,false] rfl rfl (by kernel_rfl) (fun _ _ _ h=>h) (Or.inl ⟨by rfl,?_⟩) ?_ ?_
          rotate_left
          · intro w'
            go_simp
            with_reducible rfl
          rotate_left
          · simp only [Act.put,qA,qB,qC,i64_w,i32_w]
            rfl
          refine pure_ (i:=2) (N:=some 68) (v:=?_) (a':=?_) #[true,false,true,false,false,false,false,false,false,false,false,false,false,false,false,false,false,false] rfl rfl (by kernel_rfl) (fun _ _ _ h=>h) (Or.inl ⟨by rfl,?_⟩) ?_ ?_
          rotate_left
          · intro w'
            go_simp
            with_reducible rfl
          rotate_left
          · simp only [Act.put,qA,qB,qC,i64_w,i32_w]
            rfl
          refine pure_ (i:=5) (N:=some 71) (v:=?_) (a':=?_) #[true,false,true,false,false,true,false,false,false,false,false,false,false,false,false,false,false,false] rfl rfl (by kernel_rfl) (fun _ _ _ h=>h) (Or.inl ⟨by rfl,?_⟩) ?_ ?_
          rotate_left
          · intro w'
            go_simp
            with_reducible rfl
          rotate_left
          · simp only [Act.put,qA,qB,qC,i64_w,i32_w]
            rfl
          refine pure_ (i:=8) (N:=some 74) (v:=?_) (a':=?_) #[true,false,true,false,false,true,false,false,true,false,false,false,false,false,false,false,false,false] rfl rfl (by kernel_rfl) (fun _ _ _ h=>h) (Or.inl ⟨by rfl,?_⟩) ?_ ?_
          rotate_left
          · intro w'
            go_simp
            with_reducible rfl
          rotate_left
          · simp only [Act.put,qA,qB,qC,i64_w,i32_w]
            rfl
          refine pure_ (i:=10) (N:=some 76) (v:=?_) (a':=?_) #[true,false,true,false,false,true,false,false,true,false,true,false,false,false,false,false,false,false] rfl rfl (by kernel_rfl) (fun _ _ _ h=>h) (Or.inl ⟨by rfl,?_⟩) ?_ ?_
          rotate_left
          · intro w'
            go_simp
            with_reducible rfl
          rotate_left
          · simp only [Act.put,qA,qB,qC,i64_w,i32_w]
            rfl
          refine pure_ (i:=13) (N:=some 79) (v:=?_) (a':=?_) #[true,false,true,false,false,true,false,false,true,false,true,false,false,true,false,false,false,false] rfl rfl (by kernel_rfl) (fun _ _ _ h=>h) (Or.inl ⟨by rfl,?_⟩) ?_ ?_
          rotate_left
          · intro w'
            go_simp
            with_reducible rfl
          rotate_left
          · simp only [Act.put,qA,qB,qC,i64_w,i32_w]
            rfl
          refine take_ (i:=1) (N:=some 67) (v:=?_) (a':=?_) #[true,true,true,false,false,true,false,false,true,false,true,false,false,true,false,false,false,false] rfl rfl (by kernel_rfl) (fun _ _ _ h=>h) (Or.inl ⟨by rfl,?_⟩) hHeld ?_ ?_
          rotate_left
          · rintro w' ⟨s0,s1,s2,s3,s4,s5,s6,s7,s8,s9,s10,s11,s12,s13,s14,s15,s16,s17,s18,s19⟩
            go_simp
            with_reducible rfl
          rotate_left
          · simp only [Act.put,qA,qB,qC,i64_w,i32_w]
            rfl
          refine pure_ (i:=3) (N:=some 69) (v:=?_) (a':=?_) #[true,true,true,true,false,true,false,false,true,false,true,false,false,true,false,false,false,false] rfl rfl (by kernel_rfl) (fun _ _ _ h=>h) (Or.inl ⟨by rfl,?_⟩) ?_ ?_
          rotate_left
          · intro w'
            go_simp
            with_reducible rfl
          rotate_left
          · simp only [Act.put,qA,qB,qC,i64_w,i32_w]
            rfl
          refine take_ (i:=4) (N:=some 70) (v:=?_) (a':=?_) #[true,true,true,true,true,true,false,false,true,false,true,false,false,true,false,false,false,false] rfl rfl (by kernel_rfl) (fun _ _ _ h=>h) (Or.inl ⟨by rfl,?_⟩) hHeld ?_ ?_
          rotate_left
          · rintro w' ⟨s0,s1,s2,s3,s4,s5,s6,s7,s8,s9,s10,s11,s12,s13,s14,s15,s16,s17,s18,s19⟩
            go_simp
            with_reducible rfl
          rotate_left
          · simp only [Act.put,qA,qB,qC,i64_w,i32_w]
            rfl
          refine pure_ (i:=6) (N:=some 72) (v:=?_) (a':=?_) #[true,true,true,true,true,true,true,false,true,false,true,false,false,true,false,false,false,false] rfl rfl (by kernel_rfl) (fun _ _ _ h=>h) (Or.inl ⟨by rfl,?_⟩) ?_ ?_
          rotate_left
          · intro w'
            go_simp
            with_reducible rfl
          rotate_left
          · simp only [Act.put,qA,qB,qC,i64_w,i32_w]
            rfl
          refine take_ (i:=7) (N:=some 73) (v:=?_) (a':=?_) #[true,true,true,true,true,true,true,true,true,false,true,false,false,true,false,false,false,false] rfl rfl (by kernel_rfl) (fun _ _ _ h=>h) (Or.inl ⟨by rfl,?_⟩) hHeld ?_ ?_
          rotate_left
          · rintro w' ⟨s0,s1,s2,s3,s4,s5,s6,s7,s8,s9,s10,s11,s12,s13,s14,s15,s16,s17,s18,s19⟩
            go_simp
            with_reducible rfl
          rotate_left
          · simp only [Act.put,qA,qB,qC,i64_w,i32_w]
            rfl
          refine take_ (i:=9) (N:=some 75) (v:=?_) (a':=?_) #[true,true,true,true,true,true,true,true,true,true,true,false,false,true,false,false,false,false] rfl rfl (by kernel_rfl) (fun _ _ _ h=>h) (Or.inl ⟨by rfl,?_⟩) hHeld ?_ ?_
          rotate_left
          · rintro w' ⟨s0,s1,s2,s3,s4,s5,s6,s7,s8,s9,s10,s11,s12,s13,s14,s15,s16,s17,s18,s19⟩
            go_simp
            with_reducible rfl
          rotate_left
          · simp only [Act.put,qA,qB,qC,i64_w,i32_w]
            rfl
          refine pure_ (i:=11) (N:=some 77) (v:=?_) (a':=?_) #[true,true,true,true,true,true,true,true,true,true,true,true,false,true,false,false,false,false] rfl rfl (by kernel_rfl) (fun _ _ _ h=>h) (Or.inl ⟨by rfl,?_⟩) ?_ ?_
          rotate_left
          · intro w'
            go_simp
            with_reducible rfl
          rotate_left
          · simp only [Act.put,qA,qB,qC,i64_w,i32_w]
            rfl
          refine take_ (i:=12) (N:=some 78) (v:=?_) (a':=?_) #[true,true,true,true,true,true,true,true,true,true,true,true,true,true,false,false,false,false] rfl rfl (by kernel_rfl) (fun _ _ _ h=>h) (Or.inl ⟨by rfl,?_⟩) hHeld ?_ ?_
          rotate_left
          · rintro w' ⟨s0,s1,s2,s3,s4,s5,s6,s7,s8,s9,s10,s11,s12,s13,s14,s15,s16,s17,s18,s19⟩
            go_simp
            with_reducible rfl
          rotate_left
          · simp only [Act.put,qA,qB,qC,i64_w,i32_w]
            rfl
          refine pure_ (i:=14) (N:=some 80) (v:=?_) (a':=?_) #[true,true,true,true,true,true,true,true,true,true,true,true,true,true,true,false,false,false] rfl rfl (by kernel_rfl) (fun _ _ _ h=>h) (Or.inl ⟨by rfl,?_⟩) ?_ ?_
          rotate_left
          · intro w'
            go_simp
            with_reducible rfl
          rotate_left
          · simp only [Act.put,qA,qB,qC,i64_w,i32_w]
            rfl
          refine take_ (i:=15) (N:=some 81) (v:=?_) (a':=?_) #[true,true,true,true,true,true,true,true,true,true,true,true,true,true,true,true,false,false] rfl rfl (by kernel_rfl) (fun _ _ _ h=>h) (Or.inl ⟨by rfl,?_⟩) hHeld ?_ ?_
          rotate_left
          · rintro w' ⟨s0,s1,s2,s3,s4,s5,s6,s7,s8,s9,s10,s11,s12,s13,s14,s15,s16,s17,s18,s19⟩
            go_simp
            with_reducible rfl
          rotate_left
          · simp only [Act.put,qA,qB,qC,i64_w,i32_w]
            rfl
          refine one_ (i:=16) (N:=some 82) #[true,true,true,true,true,true,true,true,true,true,true,true,true,true,true,true,true,false] rfl rfl (by kernel_rfl) (by decide) (fun K hK=>?_)
          refine goes_ Try.func90 (by kernel_rfl) rfl #[.agg #[.int .i64 o.f0,.int .i64 o.f1,.int .i64 o.f2,.int .i64 o.f3,.slice E4 o.f4.length e4,.slice E5 o.f5.length e5,.string o.f6,.int .i64 o.f7],.agg #[.int .i64 o.f0,.int .i64 o.f1,.int .i64 o.f2,.int .i64 o.f3,.slice F4 o.f4.length f4,.slice F5 o.f5.length f5,.string o.f6,.int .i64 ay]] (by rfl) rfl rfl (by simp only [List.map_toArray,List.map_cons,List.map_nil];rfl) ?_
          with_reducible refine (same_calls o.f0 o.f1 o.f2 o.f3 o.f7 ay o.f4 o.f5 o.f6 E4 E5 F4 F5 e4 e5 f4 f5 _ (Kd.C_below HC4.out HW0.out) (Kd.C_below HC5.out HW0.out) (Kd.C_below HD4.out HW0.out) (Kd.C_below HD5.out HW0.out)).mono ?_
          rintro e wq1 ⟨rfl,hb_⟩
          refine ⟨_,rfl,?_⟩
          have HW1:=aM (below_step HW0.out hb_)
          clear hb_
          refine hK.out _ _ ⟨((blk_cell (blk_below HQ0.out HW1.out) 3).trans rfl),((blk_cell (blk_below HQ1.out HW1.out) 3).trans rfl),(pw_cell_below HW1.out HX.out),(pw_cell_below HW1.out HX'.out),(pw_cell_below HW1.out HX0.out.1),(pw_cell_below HW1.out HX0.out.2.1),(pw_cell_below HW1.out HX0.out.2.2.1),(pw_cell_below HW1.out HX0.out.2.2.2.1),(pw_cell_below HW1.out HX0.out.2.2.2.2.1),(pw_cell_below HW1.out HX0.out.2.2.2.2.2.1),(pw_cell_below HW1.out HX0.out.2.2.2.2.2.2.1),(pw_cell_below HW1.out HX0.out.2.2.2.2.2.2.2),(pw_cell_below HW1.out HX1.out.1),(pw_cell_below HW1.out HX1.out.2.1),(pw_cell_below HW1.out HX1.out.2.2.1),(pw_cell_below HW1.out HX1.out.2.2.2.1),(pw_cell_below HW1.out HX1.out.2.2.2.2.1),(pw_cell_below HW1.out HX1.out.2.2.2.2.2.1),(pw_cell_below HW1.out HX1.out.2.2.2.2.2.2.1),(pw_cell_below HW1.out HX1.out.2.2.2.2.2.2.2)⟩ (fun hHeld=>?_)
          clear hK K
          refine norm_ (a':=?_) ?_ ?_
          rotate_left
          · show Act.put _ (some 82) _=_
            simp only [Act.put,qA,qB,qC,i64_w,i32_w]
            rfl
          refine pure_ (i:=17) (N:=some 83) (v:=?_) (a':=?_) #[true,true,true,true,true,true,true,true,true,true,true,true,true,true,true,true,true,true] rfl rfl (by kernel_rfl) (fun _ _ _ h=>h) (Or.inl ⟨by rfl,?_⟩) ?_ ?_
          rotate_left
          · intro w'
            go_simp
            with_reducible rfl
          rotate_left
          · simp only [Act.put,qA,qB,qC,i64_w,i32_w]
            rfl
          refine done_ (by kernel_rfl) ?_
          clear hHeld p q pm qm
          go_wp2_with fail
          go_roundg (bl.length - (m+1).toNat)
          case measure=>have:=HKM.out;have:=HM2.out;have:=HMI.out;omega
          case rel=>exact ⟨m+1,by rw [show wrap64 (m+1)=m+1 from w64 (by have:=HMI.out;omega) (by have:=HM2.out;have:=HM5.out;omega)],⟨by have:=HMI.out;have:=HM2.out;omega⟩,⟨HW1.out⟩,⟨rfl⟩⟩
        · have dm:decide (m<(bl.length:Int))=false:=decide_eq_false hm
          clear hm
          go_wp2_with fail
          go_roundg (bs.length - (i+1).toNat)
          case measure=>have:=HK.out;have:=HP.out;have:=HI.out;omega
          case rel=>exact ⟨i+1,by rw [show wrap64 (i+1)=i+1 from w64 (by have:=HI.out;omega) (by have:=HP.out;have:=HM.out;omega)],⟨by have:=HI.out;have:=HP.out;omega⟩,⟨HB.out⟩,⟨rfl⟩⟩
    · have dd:decide (i<(bs.length:Int))=false:=decide_eq_false hp
      have y:=blk_cell (blk_below HQ0.out HB.out) 3
      have HB9:=aM (below_step HB2.out HB.out)
      clear hp
      go_wp2
      (try simp only [Exit.inBlock,Exit.then])
      go_ret
      exact ⟨rfl,HB9.out⟩
theorem samep_calls (fs gs:List SF) (A0 A1:Option Addr) (c0 c1:Nat) (w:World) (h0:Kd.C k34 w A0 fs.length fs) (h1:Kd.C k34 w A1 fs.length gs) (hE:fs.map nrmF=gs.map nrmF):
    Calls Try.prog 26 #[.agg #[.slice A0 fs.length c0],.agg #[.slice A1 fs.length c1]] w fun e w'=>e=.returned (.bool true)∧Below w.heap.size w w':=by
  have hu24:=Try.underlying24
  have hu34:=Try.underlying34
  have hq_:=below_alloc (below_alloc (Below.refl w.heap.size w) (.cells #[.slice A0 fs.length c0] 24)) (.cells #[.slice A1 fs.length c1] 24)
  have HB2:=aM hq_
  have HY0:=aM (Kd.C_below h0 hq_)
  have HY1:=aM (Kd.C_below h1 hq_)
  have HM:=aM (Kd.C_max h0)
  have HE:=aM hE
  clear h0 h1 hq_ hE
  go_enter Try.func26,Try.ntmps26
  have k1_:=blk_alloc (blk_new w (.cells #[.slice A0 fs.length c0] 24)) (.cells #[.slice A1 fs.length c1] 24)
  have k2_:=blk_new (w.alloc (.cells #[.slice A0 fs.length c0] 24)) (.cells #[.slice A1 fs.length c1] 24)
  rw [show (w.alloc (.cells #[.slice A0 fs.length c0] 24)).heap.size=w.heap.size+1 by simp] at k2_
  go_upto_region 1 with (fail)
  generalize ((w.alloc (.cells #[.slice A0 fs.length c0] 24)).alloc (.cells #[.slice A1 fs.length c1] 24))=v1 at k1_ k2_ HB2 HY0 HY1 ⊢
  generalize w.heap.size+1=b1 at k2_ ⊢
  generalize hb0:w.heap.size=b0 at k1_ ⊢
  have y0:=blk_cell k1_ 0
  have z0:=blk_cell k2_ 0
  have n2:((fs.length:Int) !=(fs.length:Int))=false:=bne_self_eq_false ..
  have HQ0:=aM k1_
  have HQ1:=aM k2_
  clear k1_ k2_
  go_upto_region 3 with (fail)
  clear y0 z0 n2
  go_wp2
  (try simp only [Act.put,qA,qB,qC])
  go_loopg [5] fs.length (fun kq v5 w'=>∃ i:Int,v5=.int .i64 i∧Aside0 (0≤i∧i≤(fs.length:Int))∧Aside0 (Below v1.heap.size v1 w')∧Aside0 (kq=fs.length - i.toNat))
  case atStart=>exact ⟨0,rfl,⟨by omega⟩,⟨Below.refl _ _⟩,⟨rfl⟩⟩
  case round=>
    obtain ⟨i,rfl,HI,HB,HK⟩:=hrel
    have y0:=blk_cell (blk_below HQ0.out HB.out) 0
    by_cases hp:i<(fs.length:Int)
    · have dd:decide (i<(fs.length:Int))=true:=decide_eq_true hp
      go_upto_region 6 with (fail)
      clear y0 dd
      obtain ⟨ad,E1,e1,E3,e3,e,x0,x1,x2,x3,x4,-,h1,-,h3⟩:=at_T34 HY0.out i HI.out.1 hp
      cases e
      obtain ⟨ad',F1,f1,F3,f3,e,x0',x1',x2',x3',x4',-,h1',-,h3'⟩:=at_T34 HY1.out i HI.out.1 hp
      cases e
      have hN:nrmF (rd_T34 fs i)=nrmF (rd_T34 gs i):=map_get HE.out z34 i.toNat
      have q0:(rd_T34 fs i).f0=(rd_T34 gs i).f0:=by have q:=congrArg (fun q:SF=>q.f0) hN;exact q
      have q1:(rd_T34 fs i).f1=(rd_T34 gs i).f1:=by have q:=congrArg (fun q:SF=>q.f1) hN;exact q
      have q2:(rd_T34 fs i).f2=(rd_T34 gs i).f2:=by have q:=congrArg (fun q:SF=>q.f2) hN;exact q
      have q3:(rd_T34 fs i).f3.map (List.map nrm)=(rd_T34 gs i).f3.map (List.map nrm):=by have q:=congrArg (fun q:SF=>q.f3) hN;exact q
      have q4:(rd_T34 gs i).f3.length=(rd_T34 fs i).f3.length:=by have:=congrArg List.length q3;simpa using this.symm
      rw [← q0] at x0'
      rw [← q1] at x1' h1'
      rw [← q2] at x2'
      rw [q4] at x3' h3'
      clear q0 q1 q2 q4 hN
      generalize (rd_T34 gs i).f4=ay at x4'
      generalize (rd_T34 gs i).f3=cs at h3' q3
      generalize rd_T34 fs i=o at x0 x1 x2 x3 x4 x0' x1' x2' x3' h1 h3 h1' h3' q3
      have p:=eq_true HI.out.1
      have q:=eq_true hp
      have HP:=aM hp
      have HX0:=aM (And.intro x0 (And.intro x1 (And.intro x2 (And.intro x3 x4))))
      have HX1:=aM (And.intro x0' (And.intro x1' (And.intro x2' (And.intro x3' x4'))))
      have HC1:=aM h1
      have HC3:=aM h3
      have HD1:=aM h1'
      have HD3:=aM h3'
      have HQ3:=aM q3
      have HW0:=aM (below_drew1 HB.out)
      clear hp x0 x1 x2 x3 x4 x0' x1' x2' x3' x4' h1 h3 h1' h3' q3
      refine start_ (n:=12) (S:=fun w'=>w'.cell? ⟨b0,0,none⟩=some (.slice (some ad) fs.length c0)∧w'.cell? ⟨b1,0,none⟩=some (.slice (some ad') fs.length c1)∧w'.cell? (ad.add (i.toNat * 5))=some (.string o.f0)∧w'.cell? ⟨(ad.add (i.toNat * 5)).block,(ad.add (i.toNat * 5)).off+1,none⟩=some (.slice E1 o.f1.length e1)∧w'.cell? ⟨(ad.add (i.toNat * 5)).block,(ad.add (i.toNat * 5)).off+2,none⟩=some (.int .i64 o.f2)∧w'.cell? ⟨(ad.add (i.toNat * 5)).block,(ad.add (i.toNat * 5)).off+3,none⟩=some (.slice E3 o.f3.length e3)∧w'.cell? ⟨(ad.add (i.toNat * 5)).block,(ad.add (i.toNat * 5)).off+4,none⟩=some (.int .i64 o.f4)∧w'.cell? (ad'.add (i.toNat * 5))=some (.string o.f0)∧w'.cell? ⟨(ad'.add (i.toNat * 5)).block,(ad'.add (i.toNat * 5)).off+1,none⟩=some (.slice F1 o.f1.length f1)∧w'.cell? ⟨(ad'.add (i.toNat * 5)).block,(ad'.add (i.toNat * 5)).off+2,none⟩=some (.int .i64 o.f2)∧w'.cell? ⟨(ad'.add (i.toNat * 5)).block,(ad'.add (i.toNat * 5)).off+3,none⟩=some (.slice F3 o.f3.length f3)∧w'.cell? ⟨(ad'.add (i.toNat * 5)).block,(ad'.add (i.toNat * 5)).off+4,none⟩=some (.int .i64 ay)) (ds:=[]) #[false,false,false,false,false,false,false,false,false,false,false,false] (by kernel_rfl) rfl rfl ⟨((blk_cell (blk_below HQ0.out HW0.out) 0).trans rfl),((blk_cell (blk_below HQ1.out HW0.out) 0).trans rfl),(pw_cell_below HW0.out HX0.out.1),(pw_cell_below HW0.out HX0.out.2.1),(pw_cell_below HW0.out HX0.out.2.2.1),(pw_cell_below HW0.out HX0.out.2.2.2.1),(pw_cell_below HW0.out HX0.out.2.2.2.2),(pw_cell_below HW0.out HX1.out.1),(pw_cell_below HW0.out HX1.out.2.1),(pw_cell_below HW0.out HX1.out.2.2.1),(pw_cell_below HW0.out HX1.out.2.2.2.1),(pw_cell_below HW0.out HX1.out.2.2.2.2)⟩ (fun hHeld=>?_)
      refine pure_ (i:=0) (N:=some 20) (v:=?_) (a':=?_) #[true,false,false,false,false,false,false,false,false,false,false,false] rfl rfl (by kernel_rfl) (fun _ _ _ h=>h) (Or.inl ⟨by rfl,?_⟩) ?_ ?_
      rotate_left
      · intro w'
        go_simp
        with_reducible rfl
      rotate_left
      · simp only [Act.put,qA,qB,qC,i64_w,i32_w]
        rfl
      refine pure_ (i:=2) (N:=some 22) (v:=?_) (a':=?_) #[true,false,true,false,false,false,false,false,false,false,false,false] rfl rfl (by kernel_rfl) (fun _ _ _ h=>h) (Or.inl ⟨by rfl,?_⟩) ?_ ?_
      rotate_left
      · intro w'
        go_simp
        with_reducible rfl
      rotate_left
      · simp only [Act.put,qA,qB,qC,i64_w,i32_w]
        rfl
      refine pure_ (i:=5) (N:=some 25) (v:=?_) (a':=?_) #[true,false,true,false,false,true,false,false,false,false,false,false] rfl rfl (by kernel_rfl) (fun _ _ _ h=>h) (Or.inl ⟨by rfl,?_⟩) ?_ ?_
      rotate_left
      · intro w'
        go_simp
        with_reducible rfl
      rotate_left
      · simp only [Act.put,qA,qB,qC,i64_w,i32_w]
        rfl
      refine pure_ (i:=7) (N:=some 27) (v:=?_) (a':=?_) #[true,false,true,false,false,true,false,true,false,false,false,false] rfl rfl (by kernel_rfl) (fun _ _ _ h=>h) (Or.inl ⟨by rfl,?_⟩) ?_ ?_
      rotate_left
      · intro w'
        go_simp
        with_reducible rfl
      rotate_left
      · simp only [Act.put,qA,qB,qC,i64_w,i32_w]
        rfl
      refine take_ (i:=1) (N:=some 21) (v:=?_) (a':=?_) #[true,true,true,false,false,true,false,true,false,false,false,false] rfl rfl (by kernel_rfl) (fun _ _ _ h=>h) (Or.inl ⟨by rfl,?_⟩) hHeld ?_ ?_
      rotate_left
      · rintro w' ⟨s0,s1,s2,s3,s4,s5,s6,s7,s8,s9,s10,s11⟩
        go_simp
        with_reducible rfl
      rotate_left
      · simp only [Act.put,qA,qB,qC,i64_w,i32_w]
        rfl
      refine pure_ (i:=3) (N:=some 23) (v:=?_) (a':=?_) #[true,true,true,true,false,true,false,true,false,false,false,false] rfl rfl (by kernel_rfl) (fun _ _ _ h=>h) (Or.inl ⟨by rfl,?_⟩) ?_ ?_
      rotate_left
      · intro w'
        go_simp
        with_reducible rfl
      rotate_left
      · simp only [Act.put,qA,qB,qC,i64_w,i32_w]
        rfl
      refine take_ (i:=4) (N:=some 24) (v:=?_) (a':=?_) #[true,true,true,true,true,true,false,true,false,false,false,false] rfl rfl (by kernel_rfl) (fun _ _ _ h=>h) (Or.inl ⟨by rfl,?_⟩) hHeld ?_ ?_
      rotate_left
      · rintro w' ⟨s0,s1,s2,s3,s4,s5,s6,s7,s8,s9,s10,s11⟩
        go_simp
        with_reducible rfl
      rotate_left
      · simp only [Act.put,qA,qB,qC,i64_w,i32_w]
        rfl
      refine take_ (i:=6) (N:=some 26) (v:=?_) (a':=?_) #[true,true,true,true,true,true,true,true,false,false,false,false] rfl rfl (by kernel_rfl) (fun _ _ _ h=>h) (Or.inl ⟨by rfl,?_⟩) hHeld ?_ ?_
      rotate_left
      · rintro w' ⟨s0,s1,s2,s3,s4,s5,s6,s7,s8,s9,s10,s11⟩
        go_simp
        with_reducible rfl
      rotate_left
      · simp only [Act.put,qA,qB,qC,i64_w,i32_w]
        rfl
      refine pure_ (i:=8) (N:=some 28) (v:=?_) (a':=?_) #[true,true,true,true,true,true,true,true,true,false,false,false] rfl rfl (by kernel_rfl) (fun _ _ _ h=>h) (Or.inl ⟨by rfl,?_⟩) ?_ ?_
      rotate_left
      · intro w'
        go_simp
        with_reducible rfl
      rotate_left
      · simp only [Act.put,qA,qB,qC,i64_w,i32_w]
        rfl
      refine take_ (i:=9) (N:=some 29) (v:=?_) (a':=?_) #[true,true,true,true,true,true,true,true,true,true,false,false] rfl rfl (by kernel_rfl) (fun _ _ _ h=>h) (Or.inl ⟨by rfl,?_⟩) hHeld ?_ ?_
      rotate_left
      · rintro w' ⟨s0,s1,s2,s3,s4,s5,s6,s7,s8,s9,s10,s11⟩
        go_simp
        with_reducible rfl
      rotate_left
      · simp only [Act.put,qA,qB,qC,i64_w,i32_w]
        rfl
      refine one_ (i:=10) (N:=some 30) #[true,true,true,true,true,true,true,true,true,true,true,false] rfl rfl (by kernel_rfl) (by decide) (fun K hK=>?_)
      refine goes_ Try.func64 (by kernel_rfl) rfl #[.agg #[.string o.f0,.slice E1 o.f1.length e1,.int .i64 o.f2,.slice E3 o.f3.length e3,.int .i64 o.f4],.agg #[.string o.f0,.slice F1 o.f1.length f1,.int .i64 o.f2,.slice F3 o.f3.length f3,.int .i64 ay]] (by rfl) rfl rfl (by simp only [List.map_toArray,List.map_cons,List.map_nil];rfl) ?_
      with_reducible refine (samef_calls o.f0 o.f1 o.f2 o.f4 ay o.f3 cs E1 E3 F1 F3 e1 e3 f1 f3 _ (Kd.C_below HC1.out HW0.out) (Kd.C_below HD1.out HW0.out) (Kd.C_below HC3.out HW0.out) (Kd.C_below HD3.out HW0.out) HQ3.out).mono ?_
      rintro e wq1 ⟨rfl,hb_⟩
      refine ⟨_,rfl,?_⟩
      have HW1:=aM (below_step HW0.out hb_)
      clear hb_
      refine hK.out _ _ ⟨((blk_cell (blk_below HQ0.out HW1.out) 0).trans rfl),((blk_cell (blk_below HQ1.out HW1.out) 0).trans rfl),(pw_cell_below HW1.out HX0.out.1),(pw_cell_below HW1.out HX0.out.2.1),(pw_cell_below HW1.out HX0.out.2.2.1),(pw_cell_below HW1.out HX0.out.2.2.2.1),(pw_cell_below HW1.out HX0.out.2.2.2.2),(pw_cell_below HW1.out HX1.out.1),(pw_cell_below HW1.out HX1.out.2.1),(pw_cell_below HW1.out HX1.out.2.2.1),(pw_cell_below HW1.out HX1.out.2.2.2.1),(pw_cell_below HW1.out HX1.out.2.2.2.2)⟩ (fun hHeld=>?_)
      clear hK K
      refine norm_ (a':=?_) ?_ ?_
      rotate_left
      · show Act.put _ (some 30) _=_
        simp only [Act.put,qA,qB,qC,i64_w,i32_w]
        rfl
      refine pure_ (i:=11) (N:=some 31) (v:=?_) (a':=?_) #[true,true,true,true,true,true,true,true,true,true,true,true] rfl rfl (by kernel_rfl) (fun _ _ _ h=>h) (Or.inl ⟨by rfl,?_⟩) ?_ ?_
      rotate_left
      · intro w'
        go_simp
        with_reducible rfl
      rotate_left
      · simp only [Act.put,qA,qB,qC,i64_w,i32_w]
        rfl
      refine done_ (by kernel_rfl) ?_
      clear hHeld p q
      go_wp2_with fail
      go_roundg (fs.length - (i+1).toNat)
      case measure=>have:=HK.out;have:=HP.out;have:=HI.out;omega
      case rel=>exact ⟨i+1,by rw [show wrap64 (i+1)=i+1 from w64 (by have:=HI.out;omega) (by have:=HP.out;have:=HM.out;omega)],⟨by have:=HI.out;have:=HP.out;omega⟩,⟨HW1.out⟩,⟨rfl⟩⟩
    · have dd:decide (i<(fs.length:Int))=false:=decide_eq_false hp
      have HB9:=aM (below_step HB2.out HB.out)
      clear hp
      go_wp2
      (try simp only [Exit.inBlock,Exit.then])
      go_ret
      exact ⟨rfl,HB9.out⟩
end Go.Proofs.Ytkjdblbgmomieaa.PSh
end
