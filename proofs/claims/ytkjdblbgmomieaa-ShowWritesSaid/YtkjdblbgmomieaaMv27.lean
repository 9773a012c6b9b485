import Derived.Test.YtkjdblbgmomieaaMv26
import Derived.Test.YtkjdblbgmomieaaMv21
import Derived.Test.YtkjdblbgmomieaaMv19
import Derived.Test.YtkjdblbgmomieaaMv1
import Derived.Test.YtkjdblbgmomieaaMv6
section
namespace Go.Proofs.Ytkjdblbgmomieaa.PSh
set_option maxHeartbeats 8000000
set_option maxRecDepth 100000
open Go.RowKit Go.Proofs.YtkjdblbgmomieaaW.PrintWords Go.Proofs.YtkjdblbgmomieaaW.PrintLast Go.Proofs.YtkjdblbgmomieaaW.PrintMore Go.Proofs.Ytkjdblbgmomieaa.Str
set_option linter.unusedVariables false
set_option linter.unusedSimpArgs false
theorem int_row {W:World} {g t:Nat} {ys:List Int} (h:W.heap[g]?=some (.cells (ys.map (Value.int .i64)).toArray t (0,0))) (hl:ys.length≤9223372036854775807):Kd.C (Kd.int .i64) W (some ⟨g,0,none⟩) ys.length ys:=by
  refine ⟨rfl,hl,fun _=>⟨⟨g,0,none⟩,rfl,fun j p hj=>⟨[.int .i64 p],rfl,rfl,fun i u hi=>?_⟩⟩⟩
  cases i with
  | succ i=>simp at hi
  | zero=>
    obtain rfl:Value.int .i64 p=u:=by simpa using hi
    have e:(⟨g,0,none⟩:Addr).add (j * (Kd.int .i64).sz+0)=⟨g,j,none⟩:=by
      rw [show j * (Kd.int .i64).sz+0=j from by show j * 1+0=j;omega,add_at,Nat.zero_add]
    rw [e,blk_cell h j]
    simp [hj]
theorem int_none (W:World):Kd.C (Kd.int .i64) W none ([]:List Int).length []:=⟨rfl,by simp,fun h=>absurd h (by simp)⟩
theorem wk_instr (b4:Nat) (w:World) (h:Kd.C (Kd.int .i64) w (some ⟨b4,0,none⟩) ([3,4]:List Int).length [3,4]):Calls Try.prog 13 #[.agg #[.int .i64 14,.int .i64 (-1),.int .i64 2,.int .i64 0,.slice (some ⟨b4,0,none⟩) 2 2,.slice none 0 0,.string ⟨#[]⟩,.int .i64 0]] w fun e w'=>e=.returned (.string wkW)∧Below w.heap.size w w':=
  show_Instr.calls 14 (-1) 2 0 (some ⟨b4,0,none⟩) 2 [3,4] none 0 [] ⟨#[]⟩ 0 wkW _ h (Nat.le_refl _) (int_none w) (Nat.le_refl _) wk_i
theorem wk_chk1 (b4:Nat) (w:World) (h:Kd.C (Kd.int .i64) w (some ⟨b4,0,none⟩) ([3,4]:List Int).length [3,4]):Calls Try.prog 17 #[.agg #[.int .i64 14,.int .i64 (-1),.int .i64 2,.int .i64 0,.slice (some ⟨b4,0,none⟩) 2 2,.slice none 0 0,.string ⟨#[]⟩,.int .i64 0]] w fun e w'=>e=.returned (.int .i64 0)∧Below w.heap.size w w':=
  show_Check.calls 60 14 (-1) 2 0 (some ⟨b4,0,none⟩) 2 [3,4] none 0 [] ⟨#[]⟩ 0 0 _ h (Nat.le_refl _) (int_none w) (Nat.le_refl _) wk_c1
theorem wk_chk2 (w:World):Calls Try.prog 17 #[.agg #[.int .i64 8,.int .i64 0,.int .i64 0,.int .i64 0,.slice none 0 0,.slice none 0 0,.string ⟨#[]⟩,.int .i64 0]] w fun e w'=>e=.returned (.int .i64 0)∧Below w.heap.size w w':=
  show_Check.calls 60 8 0 0 0 none 0 [] none 0 [] ⟨#[]⟩ 0 0 _ (int_none w) (Nat.le_refl _) (int_none w) (Nat.le_refl _) wk_c2
theorem wk_chk3 (w:World):Calls Try.prog 17 #[.agg #[.int .i64 8,.int .i64 (-1),.int .i64 0,.int .i64 0,.slice none 0 0,.slice none 0 0,.string ⟨#[]⟩,.int .i64 0]] w fun e w'=>e=.returned (.int .i64 8)∧Below w.heap.size w w':=
  show_Check.calls 60 8 (-1) 0 0 none 0 [] none 0 [] ⟨#[]⟩ 0 8 _ (int_none w) (Nat.le_refl _) (int_none w) (Nat.le_refl _) wk_c3
theorem wk_whole (A:Option Addr) (c:Nat) (w:World) (h:Kd.C k34 w A wkP.length wkP) (hc:wkP.length≤c):Calls Try.prog 19 #[.agg #[.slice A 2 c]] w fun e w'=>e=.returned (.agg #[.int .i64 0,.int .i64 0])∧Below w.heap.size w w':=by
  have:=show_Whole.calls 60 A c wkP 0 0 w h hc wk_w
  rwa [wk_len] at this
theorem wk_text (A:Option Addr) (c:Nat) (w:World) (h:Kd.C k34 w A wkP.length wkP) (hc:wkP.length≤c):Calls Try.prog 15 #[.agg #[.slice A 2 c]] w fun e w'=>e=.returned (.string wkT)∧Below w.heap.size w w':=by
  have:=show_Text.calls A c wkP wkT w h hc wk_t
  rwa [wk_len] at this
theorem wk_rtext (A:Option Addr) (c:Nat) (w:World) (h:Kd.C k34 w A wkP.length wkP) (hc:wkP.length≤c):Calls Try.prog 16 #[.agg #[.slice A 2 c]] w fun e w'=>e=.returned (.string wkT)∧Below w.heap.size w w':=by
  have:=r07_Text.calls 60 A c wkP wkT w h hc wk_rt
  rwa [wk_len] at this
def l07_works.f:Option Bool:=some true
theorem l07_works.calls (r:Bool) (w:World) (h:l07_works.f=some r):
    Calls Try.prog 10 #[] w fun e w'=>e=.returned (.bool r)∧Below w.heap.size w w':=by
  obtain rfl:=Option.some.inj h
  clear h
  have hu24:=Try.underlying24
  have hu28:=Try.underlying28
  have hu34:=Try.underlying34
  have hu39:=Try.underlying39
  go_enter Try.func10,Try.ntmps10
  go_wp2_with fail
  refine (l06_Small.calls smallS _ rfl).mono ?_
  rintro e w1 ⟨rfl,hd⟩
  have HB1:=aM hd.below
  clear hd
  go_wp2_with fail
  refine (r06_Text.calls 400 smallS wkP 0 0 _ wk_p).mono ?_
  rintro e w2 ⟨v2,rfl,hr2,hb5⟩
  obtain ⟨A0,c0,e5,hl0,hC0⟩:=Kd.R_reads hr2
  subst e5
  have HB2:=aM (below_step HB1.out hb5)
  have HC2:=aM hC0
  have HL0:=aM hl0
  clear hb5 hr2 hC0 hl0 HB1
  rw [wk_len]
  go_upto_region 3 with (fail)
  have s1:(w2.alloc (.cells #[.slice A0 2 c0] 24)).heap.size=w2.heap.size+1:=by simp
  have s2:((w2.alloc (.cells #[.slice A0 2 c0] 24)).alloc (.cells #[.int .i64 0,.int .i64 0] 28)).heap.size=w2.heap.size+1+1:=by simp
  have s3:(((w2.alloc (.cells #[.slice A0 2 c0] 24)).alloc (.cells #[.int .i64 0,.int .i64 0] 28)).alloc (.cells #[.int .i64 3,.int .i64 4] 3)).heap.size=w2.heap.size+1+1+1:=by simp
  have k1:=blk_alloc (blk_alloc (blk_alloc (blk_new w2 (.cells #[.slice A0 2 c0] 24)) (.cells #[.int .i64 0,.int .i64 0] 28)) (.cells #[.int .i64 3,.int .i64 4] 3)) (.cells #[.int .i64 14,.int .i64 (-1),.int .i64 2,.int .i64 0,.slice (some ⟨w2.heap.size+1+1,0,none⟩) 2 2,.slice none 0 0,.string ⟨#[]⟩,.int .i64 0] 39)
  have k4:=blk_alloc (blk_new ((w2.alloc (.cells #[.slice A0 2 c0] 24)).alloc (.cells #[.int .i64 0,.int .i64 0] 28)) (.cells #[.int .i64 3,.int .i64 4] 3)) (.cells #[.int .i64 14,.int .i64 (-1),.int .i64 2,.int .i64 0,.slice (some ⟨w2.heap.size+1+1,0,none⟩) 2 2,.slice none 0 0,.string ⟨#[]⟩,.int .i64 0] 39)
  rw [s2] at k4
  have k3:=blk_new (((w2.alloc (.cells #[.slice A0 2 c0] 24)).alloc (.cells #[.int .i64 0,.int .i64 0] 28)).alloc (.cells #[.int .i64 3,.int .i64 4] 3)) (.cells #[.int .i64 14,.int .i64 (-1),.int .i64 2,.int .i64 0,.slice (some ⟨w2.heap.size+1+1,0,none⟩) 2 2,.slice none 0 0,.string ⟨#[]⟩,.int .i64 0] 39)
  rw [s3] at k3
  have hbel:=below_alloc (below_alloc (below_alloc (below_alloc (Below.refl w2.heap.size w2) (.cells #[.slice A0 2 c0] 24)) (.cells #[.int .i64 0,.int .i64 0] 28)) (.cells #[.int .i64 3,.int .i64 4] 3)) (.cells #[.int .i64 14,.int .i64 (-1),.int .i64 2,.int .i64 0,.slice (some ⟨w2.heap.size+1+1,0,none⟩) 2 2,.slice none 0 0,.string ⟨#[]⟩,.int .i64 0] 39)
  clear s1 s2 s3
  have HB3:=aM (below_step HB2.out hbel)
  have HC3:=aM (Kd.C_below HC2.out hbel)
  generalize ((((w2.alloc (.cells #[.slice A0 2 c0] 24)).alloc (.cells #[.int .i64 0,.int .i64 0] 28)).alloc (.cells #[.int .i64 3,.int .i64 4] 3)).alloc (.cells #[.int .i64 14,.int .i64 (-1),.int .i64 2,.int .i64 0,.slice (some ⟨w2.heap.size+1+1,0,none⟩) 2 2,.slice none 0 0,.string ⟨#[]⟩,.int .i64 0] 39))=W0 at k1 k3 k4 hbel HB3 HC3 ⊢
  clear hbel HB2 HC2
  generalize w2.heap.size+1+1+1=b3 at k1 k3 k4 ⊢
  generalize w2.heap.size+1+1=b4 at k1 k3 k4 ⊢
  generalize w2.heap.size+1=b2 at ⊢
  generalize w2.heap.size=b1 at k1 ⊢
  have HI:=aM (int_row (ys:=[3,4]) k4 (by simp))
  have HN:=aM (int_none W0)
  obtain ⟨ad,B1,d1,B3,d3,e_,y0,y1,y2,y3,y4,l1,g1,l3,g3⟩:=at_T34 HC3.out 1 (by decide) (by rw [wk_len];decide)
  subst e_
  have ewf:rd_T34 wkP 1=wkF:=rfl
  rw [ewf] at y0 y1 y2 y3 y4 l1 g1 l3 g3
  clear ewf
  have HG1:=aM g1
  have HG3:=aM g3
  have HL1:=aM (And.intro l1 l3)
  have HZ0:=aM (blk_cell k3 0)
  have HZ1:=aM (blk_cell k3 1)
  have HZ2:=aM (blk_cell k3 2)
  have HZ3:=aM (blk_cell k3 3)
  have HZ4:=aM (blk_cell k3 4)
  have HZ5:=aM (blk_cell k3 5)
  have HZ6:=aM (blk_cell k3 6)
  have HZ7:=aM (blk_cell k3 7)
  have HP0:=aM (blk_cell k1 0)
  have HQ0:=aM (show W0.cell? ⟨ad.block,ad.off+5,none⟩=_ from y0)
  have HQ1:=aM (show W0.cell? ⟨ad.block,ad.off+5+1,none⟩=_ from y1)
  have HQ2:=aM (show W0.cell? ⟨ad.block,ad.off+5+2,none⟩=_ from y2)
  have HQ3:=aM (show W0.cell? ⟨ad.block,ad.off+5+3,none⟩=_ from y3)
  have HQ4:=aM (show W0.cell? ⟨ad.block,ad.off+5+4,none⟩=_ from y4)
  clear y0 y1 y2 y3 y4 l1 g1 l3 g3 k1 k3 k4
  have HY0:=aM (below_drew1 (Below.refl W0.heap.size W0))
  have gW:(wkW.toList==([115,116,111,114,101,46,112,32,37,51,32,50,32,37,52]:List UInt8))=true:=by decide+kernel
  have gF:=wk_fs
  refine start_ (n:=49) (S:=fun w'=>w'.cell? ⟨b3,0,none⟩=some (.int .i64 14)∧w'.cell? ⟨b3,1,none⟩=some (.int .i64 (-1))∧w'.cell? ⟨b3,2,none⟩=some (.int .i64 2)∧w'.cell? ⟨b3,3,none⟩=some (.int .i64 0)∧w'.cell? ⟨b3,4,none⟩=some (.slice (some ⟨b4,0,none⟩) 2 2)∧w'.cell? ⟨b3,5,none⟩=some (.slice none 0 0)∧w'.cell? ⟨b3,6,none⟩=some (.string ⟨#[]⟩)∧w'.cell? ⟨b3,7,none⟩=some (.int .i64 0)∧w'.cell? ⟨b1,0,none⟩=some (.slice (some ad) 2 c0)∧w'.cell? ⟨ad.block,ad.off+5,none⟩=some (.string wkF.f0)∧w'.cell? ⟨ad.block,ad.off+5+1,none⟩=some (.slice B1 wkF.f1.length d1)∧w'.cell? ⟨ad.block,ad.off+5+2,none⟩=some (.int .i64 wkF.f2)∧w'.cell? ⟨ad.block,ad.off+5+3,none⟩=some (.slice B3 wkF.f3.length d3)∧w'.cell? ⟨ad.block,ad.off+5+4,none⟩=some (.int .i64 wkF.f4)) (ds:=[]) #[false,false,false,false,false,false,false,false,false,false,false,false,false,false,false,false,false,false,false,false,false,false,false,false,false,false,false,false,false,false,false,false,false,false,false,false,false,false,false,false,false,false,false,false,false,false,false,false,false] (by kernel_rfl) rfl rfl ⟨(pw_cell_below HY0.out HZ0.out),(pw_cell_below HY0.out HZ1.out),(pw_cell_below HY0.out HZ2.out),(pw_cell_below HY0.out HZ3.out),(pw_cell_below HY0.out HZ4.out),(pw_cell_below HY0.out HZ5.out),(pw_cell_below HY0.out HZ6.out),(pw_cell_below HY0.out HZ7.out),(pw_cell_below HY0.out HP0.out),(pw_cell_below HY0.out HQ0.out),(pw_cell_below HY0.out HQ1.out),(pw_cell_below HY0.out HQ2.out),(pw_cell_below HY0.out HQ3.out),(pw_cell_below HY0.out HQ4.out)⟩ (fun hHeld=>?_)
  refine take_ (i:=0) (N:=some 11) (v:=?_) (a':=?_) #[true,false,false,false,false,false,false,false,false,false,false,false,false,false,false,false,false,false,false,false,false,false,false,false,false,false,false,false,false,false,false,false,false,false,false,false,false,false,false,false,false,false,false,false,false,false,false,false,false] rfl rfl (by kernel_rfl) (fun _ _ _ h=>h) (Or.inl ⟨by rfl,?_⟩) hHeld ?_ ?_
  rotate_left
  · rintro w' ⟨s0,s1,s2,s3,s4,s5,s6,s7,s8,s9,s10,s11,s12,s13⟩
    go_simp
    with_reducible rfl
  rotate_left
  · simp only [Act.put,qA,qB,qC,i64_w,i32_w]
    rfl
  refine one_ (i:=1) (N:=some 12) #[true,true,false,false,false,false,false,false,false,false,false,false,false,false,false,false,false,false,false,false,false,false,false,false,false,false,false,false,false,false,false,false,false,false,false,false,false,false,false,false,false,false,false,false,false,false,false,false,false] rfl rfl (by kernel_rfl) (by decide) (fun K hK=>?_)
  refine goes_ Try.func13 (by kernel_rfl) rfl #[.agg #[.int .i64 14,.int .i64 (-1),.int .i64 2,.int .i64 0,.slice (some ⟨b4,0,none⟩) 2 2,.slice none 0 0,.string ⟨#[]⟩,.int .i64 0]] (by rfl) rfl rfl (by simp only [List.map_toArray,List.map_cons,List.map_nil];rfl) ?_
  with_reducible refine (wk_instr b4 _ (Kd.C_below HI.out HY0.out)).mono ?_
  rintro e wq1 ⟨rfl,hb_⟩
  refine ⟨_,rfl,?_⟩
  have HY1:=aM (below_step HY0.out hb_)
  clear hb_
  refine hK.out _ _ ⟨(pw_cell_below HY1.out HZ0.out),(pw_cell_below HY1.out HZ1.out),(pw_cell_below HY1.out HZ2.out),(pw_cell_below HY1.out HZ3.out),(pw_cell_below HY1.out HZ4.out),(pw_cell_below HY1.out HZ5.out),(pw_cell_below HY1.out HZ6.out),(pw_cell_below HY1.out HZ7.out),(pw_cell_below HY1.out HP0.out),(pw_cell_below HY1.out HQ0.out),(pw_cell_below HY1.out HQ1.out),(pw_cell_below HY1.out HQ2.out),(pw_cell_below HY1.out HQ3.out),(pw_cell_below HY1.out HQ4.out)⟩ (fun hHeld=>?_)
  clear hK K
  refine norm_ (a':=?_) ?_ ?_
  rotate_left
  · show Act.put _ (some 12) _=_
    simp only [Act.put,qA,qB,qC,i64_w,i32_w]
    rfl
  refine pure_ (i:=2) (N:=some 13) (v:=?_) (a':=?_) #[true,true,true,false,false,false,false,false,false,false,false,false,false,false,false,false,false,false,false,false,false,false,false,false,false,false,false,false,false,false,false,false,false,false,false,false,false,false,false,false,false,false,false,false,false,false,false,false,false] rfl rfl (by kernel_rfl) (fun _ _ _ h=>h) (Or.inl ⟨by rfl,?_⟩) ?_ ?_
  rotate_left
  · intro w'
    go_simp
    with_reducible rfl
  rotate_left
  · simp only [Act.put,qA,qB,qC,i64_w,i32_w]
    rfl
  refine pure_ (i:=3) (N:=some 14) (v:=?_) (a':=?_) #[true,true,true,true,false,false,false,false,false,false,false,false,false,false,false,false,false,false,false,false,false,false,false,false,false,false,false,false,false,false,false,false,false,false,false,false,false,false,false,false,false,false,false,false,false,false,false,false,false] rfl rfl (by kernel_rfl) (fun _ _ _ h=>h) (Or.inl ⟨by rfl,?_⟩) ?_ ?_
  rotate_left
  · intro w'
    go_simp
    with_reducible rfl
  rotate_left
  · simp only [Act.put,qA,qB,qC,i64_w,i32_w]
    rfl
  refine take_ (i:=4) (N:=some 15) (v:=?_) (a':=?_) #[true,true,true,true,true,false,false,false,false,false,false,false,false,false,false,false,false,false,false,false,false,false,false,false,false,false,false,false,false,false,false,false,false,false,false,false,false,false,false,false,false,false,false,false,false,false,false,false,false] rfl rfl (by kernel_rfl) (fun _ _ _ h=>h) (Or.inl ⟨by rfl,?_⟩) hHeld ?_ ?_
  rotate_left
  · rintro w' ⟨s0,s1,s2,s3,s4,s5,s6,s7,s8,s9,s10,s11,s12,s13⟩
    go_simp
    with_reducible rfl
  rotate_left
  · simp only [Act.put,qA,qB,qC,i64_w,i32_w]
    rfl
  refine one_ (i:=5) (N:=some 16) #[true,true,true,true,true,true,false,false,false,false,false,false,false,false,false,false,false,false,false,false,false,false,false,false,false,false,false,false,false,false,false,false,false,false,false,false,false,false,false,false,false,false,false,false,false,false,false,false,false] rfl rfl (by kernel_rfl) (by decide) (fun K hK=>?_)
  refine goes_ Try.func17 (by kernel_rfl) rfl #[.agg #[.int .i64 14,.int .i64 (-1),.int .i64 2,.int .i64 0,.slice (some ⟨b4,0,none⟩) 2 2,.slice none 0 0,.string ⟨#[]⟩,.int .i64 0]] (by rfl) rfl rfl (by simp only [List.map_toArray,List.map_cons,List.map_nil];rfl) ?_
  with_reducible refine (wk_chk1 b4 _ (Kd.C_below HI.out HY1.out)).mono ?_
  rintro e wq2 ⟨rfl,hb_⟩
  refine ⟨_,rfl,?_⟩
  have HY2:=aM (below_step HY1.out hb_)
  clear hb_
  refine hK.out _ _ ⟨(pw_cell_below HY2.out HZ0.out),(pw_cell_below HY2.out HZ1.out),(pw_cell_below HY2.out HZ2.out),(pw_cell_below HY2.out HZ3.out),(pw_cell_below HY2.out HZ4.out),(pw_cell_below HY2.out HZ5.out),(pw_cell_below HY2.out HZ6.out),(pw_cell_below HY2.out HZ7.out),(pw_cell_below HY2.out HP0.out),(pw_cell_below HY2.out HQ0.out),(pw_cell_below HY2.out HQ1.out),(pw_cell_below HY2.out HQ2.out),(pw_cell_below HY2.out HQ3.out),(pw_cell_below HY2.out HQ4.out)⟩ (fun hHeld=>?_)
  clear hK K
  refine norm_ (a':=?_) ?_ ?_
  rotate_left
  · show Act.put _ (some 16) _=_
    simp only [Act.put,qA,qB,qC,i64_w,i32_w]
    rfl
  refine pure_ (i:=6) (N:=some 17) (v:=?_) (a':=?_) #[true,true,true,true,true,true,true,false,false,false,false,false,false,false,false,false,false,false,false,false,false,false,false,false,false,false,false,false,false,false,false,false,false,false,false,false,false,false,false,false,false,false,false,false,false,false,false,false,false] rfl rfl (by kernel_rfl) (fun _ _ _ h=>h) (Or.inl ⟨by rfl,?_⟩) ?_ ?_
  rotate_left
  · intro w'
    go_simp
    with_reducible rfl
  rotate_left
  · simp only [Act.put,qA,qB,qC,i64_w,i32_w]
    rfl
  refine pure_ (i:=7) (N:=some 18) (v:=?_) (a':=?_) #[true,true,true,true,true,true,true,true,false,false,false,false,false,false,false,false,false,false,false,false,false,false,false,false,false,false,false,false,false,false,false,false,false,false,false,false,false,false,false,false,false,false,false,false,false,false,false,false,false] rfl rfl (by kernel_rfl) (fun _ _ _ h=>h) (Or.inl ⟨by rfl,?_⟩) ?_ ?_
  rotate_left
  · intro w'
    go_simp
    with_reducible rfl
  rotate_left
  · simp only [Act.put,qA,qB,qC,i64_w,i32_w]
    rfl
  refine pure_ (i:=8) (N:=some 19) (v:=?_) (a':=?_) #[true,true,true,true,true,true,true,true,true,false,false,false,false,false,false,false,false,false,false,false,false,false,false,false,false,false,false,false,false,false,false,false,false,false,false,false,false,false,false,false,false,false,false,false,false,false,false,false,false] rfl rfl (by kernel_rfl) (fun _ _ _ h=>h) (Or.inl ⟨by rfl,?_⟩) ?_ ?_
  rotate_left
  · intro w'
    go_simp
    with_reducible rfl
  rotate_left
  · simp only [Act.put,qA,qB,qC,i64_w,i32_w]
    rfl
  refine pure_ (i:=9) (N:=some 20) (v:=?_) (a':=?_) #[true,true,true,true,true,true,true,true,true,true,false,false,false,false,false,false,false,false,false,false,false,false,false,false,false,false,false,false,false,false,false,false,false,false,false,false,false,false,false,false,false,false,false,false,false,false,false,false,false] rfl rfl (by kernel_rfl) (fun _ _ _ h=>h) (Or.inl ⟨by rfl,?_⟩) ?_ ?_
  rotate_left
  · intro w'
    go_simp
    with_reducible rfl
  rotate_left
  · simp only [Act.put,qA,qB,qC,i64_w,i32_w]
    rfl
  refine one_ (i:=10) (N:=some 21) #[true,true,true,true,true,true,true,true,true,true,true,false,false,false,false,false,false,false,false,false,false,false,false,false,false,false,false,false,false,false,false,false,false,false,false,false,false,false,false,false,false,false,false,false,false,false,false,false,false] rfl rfl (by kernel_rfl) (by decide) (fun K hK=>?_)
  refine goes_ Try.func17 (by kernel_rfl) rfl #[.agg #[.int .i64 8,.int .i64 0,.int .i64 0,.int .i64 0,.slice none 0 0,.slice none 0 0,.string ⟨#[]⟩,.int .i64 0]] (by rfl) rfl rfl (by simp only [List.map_toArray,List.map_cons,List.map_nil];rfl) ?_
  with_reducible refine (wk_chk2 _).mono ?_
  rintro e wq3 ⟨rfl,hb_⟩
  refine ⟨_,rfl,?_⟩
  have HY3:=aM (below_step HY2.out hb_)
  clear hb_
  refine hK.out _ _ ⟨(pw_cell_below HY3.out HZ0.out),(pw_cell_below HY3.out HZ1.out),(pw_cell_below HY3.out HZ2.out),(pw_cell_below HY3.out HZ3.out),(pw_cell_below HY3.out HZ4.out),(pw_cell_below HY3.out HZ5.out),(pw_cell_below HY3.out HZ6.out),(pw_cell_below HY3.out HZ7.out),(pw_cell_below HY3.out HP0.out),(pw_cell_below HY3.out HQ0.out),(pw_cell_below HY3.out HQ1.out),(pw_cell_below HY3.out HQ2.out),(pw_cell_below HY3.out HQ3.out),(pw_cell_below HY3.out HQ4.out)⟩ (fun hHeld=>?_)
  clear hK K
  refine norm_ (a':=?_) ?_ ?_
  rotate_left
  · show Act.put _ (some 21) _=_
    simp only [Act.put,qA,qB,qC,i64_w,i32_w]
    rfl
  refine pure_ (i:=11) (N:=some 22) (v:=?_) (a':=?_) #[true,true,true,true,true,true,true,true,true,true,true,true,false,false,false,false,false,false,false,false,false,false,false,false,false,false,false,false,false,false,false,false,false,false,false,false,false,false,false,false,false,false,false,false,false,false,false,false,false] rfl rfl (by kernel_rfl) (fun _ _ _ h=>h) (Or.inl ⟨by rfl,?_⟩) ?_ ?_
  rotate_left
  · intro w'
    go_simp
    with_reducible rfl
  rotate_left
  · simp only [Act.put,qA,qB,qC,i64_w,i32_w]
    rfl
  refine pure_ (i:=12) (N:=some 23) (v:=?_) (a':=?_) #[true,true,true,true,true,true,true,true,true,true,true,true,true,false,false,false,false,false,false,false,false,false,false,false,false,false,false,false,false,false,false,false,false,false,false,false,false,false,false,false,false,false,false,false,false,false,false,false,false] rfl rfl (by kernel_rfl) (fun _ _ _ h=>h) (Or.inl ⟨by rfl,?_⟩) ?_ ?_
  rotate_left
  · intro w'
    go_simp
    with_reducible rfl
  rotate_left
  · simp only [Act.put,qA,qB,qC,i64_w,i32_w]
    rfl
  refine pure_ (i:=13) (N:=some 24) (v:=?_) (a':=?_) #[true,true,true,true,true,true,true,true,true,true,true,true,true,true,false,false,false,false,false,false,false,false,false,false,false,false,false,false,false,false,false,false,false,false,false,false,false,false,false,false,false,false,false,false,false,false,false,false,false] rfl rfl (by kernel_rfl) (fun _ _ _ h=>h) (Or.inl ⟨by rfl,?_⟩) ?_ ?_
  rotate_left
  · intro w'
    go_simp
    with_reducible rfl
  rotate_left
  · simp only [Act.put,qA,qB,qC,i64_w,i32_w]
    rfl
  refine pure_ (i:=14) (N:=some 25) (v:=?_) (a':=?_) #[true,true,true,true,true,true,true,true,true,true,true,true,true,true,true,false,false,false,false,false,false,false,false,false,false,false,false,false,false,false,false,false,false,false,false,false,false,false,false,false,false,false,false,false,false,false,false,false,false] rfl rfl (by kernel_rfl) (fun _ _ _ h=>h) (Or.inl ⟨by rfl,?_⟩) ?_ ?_
  rotate_left
  · intro w'
    go_simp
    with_reducible rfl
  rotate_left
  · simp only [Act.put,qA,qB,qC,i64_w,i32_w]
    rfl
  refine one_ (i:=15) (N:=some 26) #[true,true,true,true,true,true,true,true,true,true,true,true,true,true,true,true,false,false,false,false,false,false,false,false,false,false,false,false,false,false,false,false,false,false,false,false,false,false,false,false,false,false,false,false,false,false,false,false,false] rfl rfl (by kernel_rfl) (by decide) (fun K hK=>?_)
  refine goes_ Try.func17 (by kernel_rfl) rfl #[.agg #[.int .i64 8,.int .i64 (-1),.int .i64 0,.int .i64 0,.slice none 0 0,.slice none 0 0,.string ⟨#[]⟩,.int .i64 0]] (by rfl) rfl rfl (by simp only [List.map_toArray,List.map_cons,List.map_nil];rfl) ?_
  with_reducible refine (wk_chk3 _).mono ?_
  rintro e wq4 ⟨rfl,hb_⟩
  refine ⟨_,rfl,?_⟩
  have HY4:=aM (below_step HY3.out hb_)
  clear hb_
  refine hK.out _ _ ⟨(pw_cell_below HY4.out HZ0.out),(pw_cell_below HY4.out HZ1.out),(pw_cell_below HY4.out HZ2.out),(pw_cell_below HY4.out HZ3.out),(pw_cell_below HY4.out HZ4.out),(pw_cell_below HY4.out HZ5.out),(pw_cell_below HY4.out HZ6.out),(pw_cell_below HY4.out HZ7.out),(pw_cell_below HY4.out HP0.out),(pw_cell_below HY4.out HQ0.out),(pw_cell_below HY4.out HQ1.out),(pw_cell_below HY4.out HQ2.out),(pw_cell_below HY4.out HQ3.out),(pw_cell_below HY4.out HQ4.out)⟩ (fun hHeld=>?_)
  clear hK K
  refine norm_ (a':=?_) ?_ ?_
  rotate_left
  · show Act.put _ (some 26) _=_
    simp only [Act.put,qA,qB,qC,i64_w,i32_w]
    rfl
  refine pure_ (i:=16) (N:=some 27) (v:=?_) (a':=?_) #[true,true,true,true,true,true,true,true,true,true,true,true,true,true,true,true,true,false,false,false,false,false,false,false,false,false,false,false,false,false,false,false,false,false,false,false,false,false,false,false,false,false,false,false,false,false,false,false,false] rfl rfl (by kernel_rfl) (fun _ _ _ h=>h) (Or.inl ⟨by rfl,?_⟩) ?_ ?_
  rotate_left
  · intro w'
    go_simp
    with_reducible rfl
  rotate_left
  · simp only [Act.put,qA,qB,qC,i64_w,i32_w]
    rfl
  refine pure_ (i:=17) (N:=some 28) (v:=?_) (a':=?_) #[true,true,true,true,true,true,true,true,true,true,true,true,true,true,true,true,true,true,false,false,false,false,false,false,false,false,false,false,false,false,false,false,false,false,false,false,false,false,false,false,false,false,false,false,false,false,false,false,false] rfl rfl (by kernel_rfl) (fun _ _ _ h=>h) (Or.inl ⟨by rfl,?_⟩) ?_ ?_
  rotate_left
  · intro w'
    go_simp
    with_reducible rfl
  rotate_left
  · simp only [Act.put,qA,qB,qC,i64_w,i32_w]
    rfl
  refine pure_ (i:=18) (N:=some 29) (v:=?_) (a':=?_) #[true,true,true,true,true,true,true,true,true,true,true,true,true,true,true,true,true,true,true,false,false,false,false,false,false,false,false,false,false,false,false,false,false,false,false,false,false,false,false,false,false,false,false,false,false,false,false,false,false] rfl rfl (by kernel_rfl) (fun _ _ _ h=>h) (Or.inl ⟨by rfl,?_⟩) ?_ ?_
  rotate_left
  · intro w'
    go_simp
    with_reducible rfl
  rotate_left
  · simp only [Act.put,qA,qB,qC,i64_w,i32_w]
    rfl
  refine pure_ (i:=21) (N:=some 32) (v:=?_) (a':=?_) #[true,true,true,true,true,true,true,true,true,true,true,true,true,true,true,true,true,true,true,false,false,true,false,false,false,false,false,false,false,false,false,false,false,false,false,false,false,false,false,false,false,false,false,false,false,false,false,false,false] rfl rfl (by kernel_rfl) (fun _ _ _ h=>h) (Or.inl ⟨by rfl,?_⟩) ?_ ?_
  rotate_left
  · intro w'
    go_simp
    with_reducible rfl
  rotate_left
  · simp only [Act.put,qA,qB,qC,i64_w,i32_w]
    rfl
  refine take_ (i:=19) (N:=some 30) (v:=?_) (a':=?_) #[true,true,true,true,true,true,true,true,true,true,true,true,true,true,true,true,true,true,true,true,false,true,false,false,false,false,false,false,false,false,false,false,false,false,false,false,false,false,false,false,false,false,false,false,false,false,false,false,false] rfl rfl (by kernel_rfl) (fun _ _ _ h=>h) (Or.inl ⟨by rfl,?_⟩) hHeld ?_ ?_
  rotate_left
  · rintro w' ⟨s0,s1,s2,s3,s4,s5,s6,s7,s8,s9,s10,s11,s12,s13⟩
    go_simp
    with_reducible rfl
  rotate_left
  · simp only [Act.put,qA,qB,qC,i64_w,i32_w]
    rfl
  refine one_ (i:=20) (N:=some 31) #[true,true,true,true,true,true,true,true,true,true,true,true,true,true,true,true,true,true,true,true,true,true,false,false,false,false,false,false,false,false,false,false,false,false,false,false,false,false,false,false,false,false,false,false,false,false,false,false,false] rfl rfl (by kernel_rfl) (by decide) (fun K hK=>?_)
  refine goes_ Try.func19 (by kernel_rfl) rfl #[.agg #[.slice (some ad) 2 c0]] (by rfl) rfl rfl (by simp only [List.map_toArray,List.map_cons,List.map_nil];rfl) ?_
  with_reducible refine (wk_whole (some ad) c0 _ (Kd.C_below HC3.out HY4.out) HL0.out).mono ?_
  rintro e wq5 ⟨rfl,hb_⟩
  refine ⟨_,rfl,?_⟩
  have HY5:=aM (below_step HY4.out hb_)
  clear hb_
  refine hK.out _ _ ⟨(pw_cell_below HY5.out HZ0.out),(pw_cell_below HY5.out HZ1.out),(pw_cell_below HY5.out HZ2.out),(pw_cell_below HY5.out HZ3.out),(pw_cell_below HY5.out HZ4.out),(pw_cell_below HY5.out HZ5.out),(pw_cell_below HY5.out HZ6.out),(pw_cell_below HY5.out HZ7.out),(pw_cell_below HY5.out HP0.out),(pw_cell_below HY5.out HQ0.out),(pw_cell_below HY5.out HQ1.out),(pw_cell_below HY5.out HQ2.out),(pw_cell_below HY5.out HQ3.out),(pw_cell_below HY5.out HQ4.out)⟩ (fun hHeld=>?_)
  clear hK K
  refine norm_ (a':=?_) ?_ ?_
  rotate_left
  · show Act.put _ (some 31) _=_
    simp only [Act.put,qA,qB,qC,i64_w,i32_w]
    rfl
  refine pure_ (i:=22) (N:=some 33) (v:=?_) (a':=?_) #[true,true,true,true,true,true,true,true,true,true,true,true,true,true,true,true,true,true,true,true,true,true,true,false,false,false,false,false,false,false,false,false,false,false,false,false,false,false,false,false,false,false,false,false,false,false,false,false,false] rfl rfl (by kernel_rfl) (fun _ _ _ h=>h) (Or.inl ⟨by rfl,?_⟩) ?_ ?_
  rotate_left
  · intro w'
    go_simp
    with_reducible rfl
  rotate_left
  · simp only [Act.put,qA,qB,qC,i64_w,i32_w]
    rfl
  refine pure_ (i:=23) (N:=some 34) (v:=?_) (a':=?_) #[true,true,true,true,true,true,true,true,true,true,true,true,true,true,true,true,true,true,true,true,true,true,true,true,false,false,false,false,false,false,false,false,false,false,false,false,false,false,false,false,false,false,false,false,false,false,false,false,false] rfl rfl (by kernel_rfl) (fun _ _ _ h=>h) (Or.inl ⟨by rfl,?_⟩) ?_ ?_
  rotate_left
  · intro w'
    go_simp
    with_reducible rfl
  rotate_left
  · simp only [Act.put,qA,qB,qC,i64_w,i32_w]
    rfl
  refine pure_ (i:=24) (N:=some 35) (v:=?_) (a':=?_) #[true,true,true,true,true,true,true,true,true,true,true,true,true,true,true,true,true,true,true,true,true,true,true,true,true,false,false,false,false,false,false,false,false,false,false,false,false,false,false,false,false,false,false,false,false,false,false,false,false] rfl rfl (by kernel_rfl) (fun _ _ _ h=>h) (Or.inl ⟨by rfl,?_⟩) ?_ ?_
  rotate_left
  · intro w'
    go_simp
    with_reducible rfl
  rotate_left
  · simp only [Act.put,qA,qB,qC,i64_w,i32_w]
    rfl
  refine take_ (i:=25) (N:=some 36) (v:=?_) (a':=?_) #[true,true,true,true,true,true,true,true,true,true,true,true,true,true,true,true,true,true,true,true,true,true,true,true,true,true,false,false,false,false,false,false,false,false,false,false,false,false,false,false,false,false,false,false,false,false,false,false,false] rfl rfl (by kernel_rfl) (fun _ _ _ h=>h) (Or.inl ⟨by rfl,?_⟩) hHeld ?_ ?_
  rotate_left
  · rintro w' ⟨s0,s1,s2,s3,s4,s5,s6,s7,s8,s9,s10,s11,s12,s13⟩
    go_simp
    with_reducible rfl
  rotate_left
  · simp only [Act.put,qA,qB,qC,i64_w,i32_w]
    rfl
  refine take_ (i:=28) (N:=some 39) (v:=?_) (a':=?_) #[true,true,true,true,true,true,true,true,true,true,true,true,true,true,true,true,true,true,true,true,true,true,true,true,true,true,false,false,true,false,false,false,false,false,false,false,false,false,false,false,false,false,false,false,false,false,false,false,false] rfl rfl (by kernel_rfl) (fun _ _ _ h=>h) (Or.inl ⟨by rfl,?_⟩) hHeld ?_ ?_
  rotate_left
  · rintro w' ⟨s0,s1,s2,s3,s4,s5,s6,s7,s8,s9,s10,s11,s12,s13⟩
    go_simp
    with_reducible rfl
  rotate_left
  · simp only [Act.put,qA,qB,qC,i64_w,i32_w]
    rfl
  refine one_ (i:=26) (N:=some 37) #[true,true,true,true,true,true,true,true,true,true,true,true,true,true,true,true,true,true,true,true,true,true,true,true,true,true,true,false,true,false,false,false,false,false,false,false,false,false,false,false,false,false,false,false,false,false,false,false,false] rfl rfl (by kernel_rfl) (by decide) (fun K hK=>?_)
  refine goes_ Try.func15 (by kernel_rfl) rfl #[.agg #[.slice (some ad) 2 c0]] (by rfl) rfl rfl (by simp only [List.map_toArray,List.map_cons,List.map_nil];rfl) ?_
  with_reducible refine (wk_text (some ad) c0 _ (Kd.C_below HC3.out HY5.out) HL0.out).mono ?_
  rintro e wq6 ⟨rfl,hb_⟩
  refine ⟨_,rfl,?_⟩
  have HY6:=aM (below_step HY5.out hb_)
  clear hb_
  refine hK.out _ _ ⟨(pw_cell_below HY6.out HZ0.out),(pw_cell_below HY6.out HZ1.out),(pw_cell_below HY6.out HZ2.out),(pw_cell_below HY6.out HZ3.out),(pw_cell_below HY6.out HZ4.out),(pw_cell_below HY6.out HZ5.out),(pw_cell_below HY6.out HZ6.out),(pw_cell_below HY6.out HZ7.out),(pw_cell_below HY6.out HP0.out),(pw_cell_below HY6.out HQ0.out),(pw_cell_below HY6.out HQ1.out),(pw_cell_below HY6.out HQ2.out),(pw_cell_below HY6.out HQ3.out),(pw_cell_below HY6.out HQ4.out)⟩ (fun hHeld=>?_)
  clear hK K
  refine norm_ (a':=?_) ?_ ?_
  rotate_left
  · show Act.put _ (some 37) _=_
    simp only [Act.put,qA,qB,qC,i64_w,i32_w]
    rfl
  refine pure_ (i:=27) (N:=some 38) (v:=?_) (a':=?_) #[true,true,true,true,true,true,true,true,true,true,true,true,true,true,true,true,true,true,true,true,true,true,true,true,true,true,true,true,true,false,false,false,false,false,false,false,false,false,false,false,false,false,false,false,false,false,false,false,false] rfl rfl (by kernel_rfl) (fun _ _ _ h=>h) (Or.inl ⟨by rfl,?_⟩) ?_ ?_
  rotate_left
  · intro w'
    go_simp
    with_reducible rfl
  rotate_left
  · simp only [Act.put,qA,qB,qC,i64_w,i32_w]
    rfl
  refine one_ (i:=29) (N:=some 40) #[true,true,true,true,true,true,true,true,true,true,true,true,true,true,true,true,true,true,true,true,true,true,true,true,true,true,true,true,true,true,false,false,false,false,false,false,false,false,false,false,false,false,false,false,false,false,false,false,false] rfl rfl (by kernel_rfl) (by decide) (fun K hK=>?_)
  refine goes_ Try.func16 (by kernel_rfl) rfl #[.agg #[.slice (some ad) 2 c0]] (by rfl) rfl rfl (by simp only [List.map_toArray,List.map_cons,List.map_nil];rfl) ?_
  with_reducible refine (wk_rtext (some ad) c0 _ (Kd.C_below HC3.out HY6.out) HL0.out).mono ?_
  rintro e wq7 ⟨rfl,hb_⟩
  refine ⟨_,rfl,?_⟩
  have HY7:=aM (below_step HY6.out hb_)
  clear hb_
  refine hK.out _ _ ⟨(pw_cell_below HY7.out HZ0.out),(pw_cell_below HY7.out HZ1.out),(pw_cell_below HY7.out HZ2.out),(pw_cell_below HY7.out HZ3.out),(pw_cell_below HY7.out HZ4.out),(pw_cell_below HY7.out HZ5.out),(pw_cell_below HY7.out HZ6.out),(pw_cell_below HY7.out HZ7.out),(pw_cell_below HY7.out HP0.out),(pw_cell_below HY7.out HQ0.out),(pw_cell_below HY7.out HQ1.out),(pw_cell_below HY7.out HQ2.out),(pw_cell_below HY7.out HQ3.out),(pw_cell_below HY7.out HQ4.out)⟩ (fun hHeld=>?_)
  clear hK K
  refine norm_ (a':=?_) ?_ ?_
  rotate_left
  · show Act.put _ (some 40) _=_
    simp only [Act.put,qA,qB,qC,i64_w,i32_w]
    rfl
  refine pure_ (i:=30) (N:=some 41) (v:=?_) (a':=?_) #[true,true,true,true,true,true,true,true,true,true,true,true,true,true,true,true,true,true,true,true,true,true,true,true,true,true,true,true,true,true,true,false,false,false,false,false,false,false,false,false,false,false,false,false,false,false,false,false,false] rfl rfl (by kernel_rfl) (fun _ _ _ h=>h) (Or.inl ⟨by rfl,?_⟩) ?_ ?_
  rotate_left
  · intro w'
    go_simp
    with_reducible rfl
  rotate_left
  · simp only [Act.put,qA,qB,qC,i64_w,i32_w]
    rfl
  refine pure_ (i:=31) (N:=some 42) (v:=?_) (a':=?_) #[true,true,true,true,true,true,true,true,true,true,true,true,true,true,true,true,true,true,true,true,true,true,true,true,true,true,true,true,true,true,true,true,false,false,false,false,false,false,false,false,false,false,false,false,false,false,false,false,false] rfl rfl (by kernel_rfl) (fun _ _ _ h=>h) (Or.inl ⟨by rfl,?_⟩) ?_ ?_
  rotate_left
  · intro w'
    go_simp
    with_reducible rfl
  rotate_left
  · simp only [Act.put,qA,qB,qC,i64_w,i32_w]
    rfl
  refine pure_ (i:=32) (N:=some 43) (v:=?_) (a':=?_) #[true,true,true,true,true,true,true,true,true,true,true,true,true,true,true,true,true,true,true,true,true,true,true,true,true,true,true,true,true,true,true,true,true,false,false,false,false,false,false,false,false,false,false,false,false,false,false,false,false] rfl rfl (by kernel_rfl) (fun _ _ _ h=>h) (Or.inl ⟨by rfl,?_⟩) ?_ ?_
  rotate_left
  · intro w'
    go_simp
    with_reducible rfl
  rotate_left
  · simp only [Act.put,qA,qB,qC,i64_w,i32_w]
    rfl
  refine pure_ (i:=33) (N:=some 44) (v:=?_) (a':=?_) #[true,true,true,true,true,true,true,true,true,true,true,true,true,true,true,true,true,true,true,true,true,true,true,true,true,true,true,true,true,true,true,true,true,true,false,false,false,false,false,false,false,false,false,false,false,false,false,false,false] rfl rfl (by kernel_rfl) (fun _ _ _ h=>h) (Or.inl ⟨by rfl,?_⟩) ?_ ?_
  rotate_left
  · intro w'
    go_simp
    with_reducible rfl
  rotate_left
  · simp only [Act.put,qA,qB,qC,i64_w,i32_w]
    rfl
  refine pure_ (i:=34) (N:=some 45) (v:=?_) (a':=?_) #[true,true,true,true,true,true,true,true,true,true,true,true,true,true,true,true,true,true,true,true,true,true,true,true,true,true,true,true,true,true,true,true,true,true,true,false,false,false,false,false,false,false,false,false,false,false,false,false,false] rfl rfl (by kernel_rfl) (fun _ _ _ h=>h) (Or.inl ⟨by rfl,?_⟩) ?_ ?_
  rotate_left
  · intro w'
    go_simp
    with_reducible rfl
  rotate_left
  · simp only [Act.put,qA,qB,qC,i64_w,i32_w]
    rfl
  refine take_ (i:=35) (N:=some 46) (v:=?_) (a':=?_) #[true,true,true,true,true,true,true,true,true,true,true,true,true,true,true,true,true,true,true,true,true,true,true,true,true,true,true,true,true,true,true,true,true,true,true,true,false,false,false,false,false,false,false,false,false,false,false,false,false] rfl rfl (by kernel_rfl) (fun _ _ _ h=>h) (Or.inl ⟨by rfl,?_⟩) hHeld ?_ ?_
  rotate_left
  · rintro w' ⟨s0,s1,s2,s3,s4,s5,s6,s7,s8,s9,s10,s11,s12,s13⟩
    go_simp
    with_reducible rfl
  rotate_left
  · simp only [Act.put,qA,qB,qC,i64_w,i32_w]
    rfl
  refine pure_ (i:=36) (N:=some 47) (v:=?_) (a':=?_) #[true,true,true,true,true,true,true,true,true,true,true,true,true,true,true,true,true,true,true,true,true,true,true,true,true,true,true,true,true,true,true,true,true,true,true,true,true,false,false,false,false,false,false,false,false,false,false,false,false] rfl rfl (by kernel_rfl) (fun _ _ _ h=>h) (Or.inl ⟨by rfl,?_⟩) ?_ ?_
  rotate_left
  · intro w'
    go_simp
    with_reducible rfl
  rotate_left
  · simp only [Act.put,qA,qB,qC,i64_w,i32_w]
    rfl
  refine pure_ (i:=37) (N:=some 48) (v:=?_) (a':=?_) #[true,true,true,true,true,true,true,true,true,true,true,true,true,true,true,true,true,true,true,true,true,true,true,true,true,true,true,true,true,true,true,true,true,true,true,true,true,true,false,false,false,false,false,false,false,false,false,false,false] rfl rfl (by kernel_rfl) (fun _ _ _ h=>h) (Or.inl ⟨by rfl,?_⟩) ?_ ?_
  rotate_left
  · intro w'
    go_simp
    with_reducible rfl
  rotate_left
  · simp only [Act.put,qA,qB,qC,i64_w,i32_w]
    rfl
  refine pure_ (i:=38) (N:=some 49) (v:=?_) (a':=?_) #[true,true,true,true,true,true,true,true,true,true,true,true,true,true,true,true,true,true,true,true,true,true,true,true,true,true,true,true,true,true,true,true,true,true,true,true,true,true,true,false,false,false,false,false,false,false,false,false,false] rfl rfl (by kernel_rfl) (fun _ _ _ h=>h) (Or.inl ⟨by rfl,?_⟩) ?_ ?_
  rotate_left
  · intro w'
    go_simp
    with_reducible rfl
  rotate_left
  · simp only [Act.put,qA,qB,qC,i64_w,i32_w]
    rfl
  refine pure_ (i:=39) (N:=some 50) (v:=?_) (a':=?_) #[true,true,true,true,true,true,true,true,true,true,true,true,true,true,true,true,true,true,true,true,true,true,true,true,true,true,true,true,true,true,true,true,true,true,true,true,true,true,true,true,false,false,false,false,false,false,false,false,false] rfl rfl (by kernel_rfl) (fun _ _ _ h=>h) (Or.inl ⟨by rfl,?_⟩) ?_ ?_
  rotate_left
  · intro w'
    go_simp
    with_reducible rfl
  rotate_left
  · simp only [Act.put,qA,qB,qC,i64_w,i32_w]
    rfl
  refine pure_ (i:=40) (N:=some 51) (v:=?_) (a':=?_) #[true,true,true,true,true,true,true,true,true,true,true,true,true,true,true,true,true,true,true,true,true,true,true,true,true,true,true,true,true,true,true,true,true,true,true,true,true,true,true,true,true,false,false,false,false,false,false,false,false] rfl rfl (by kernel_rfl) (fun _ _ _ h=>h) (Or.inl ⟨by rfl,?_⟩) ?_ ?_
  rotate_left
  · intro w'
    go_simp
    with_reducible rfl
  rotate_left
  · simp only [Act.put,qA,qB,qC,i64_w,i32_w]
    rfl
  refine take_ (i:=41) (N:=some 52) (v:=?_) (a':=?_) #[true,true,true,true,true,true,true,true,true,true,true,true,true,true,true,true,true,true,true,true,true,true,true,true,true,true,true,true,true,true,true,true,true,true,true,true,true,true,true,true,true,true,false,false,false,false,false,false,false] rfl rfl (by kernel_rfl) (fun _ _ _ h=>h) (Or.inl ⟨by rfl,?_⟩) hHeld ?_ ?_
  rotate_left
  · rintro w' ⟨s0,s1,s2,s3,s4,s5,s6,s7,s8,s9,s10,s11,s12,s13⟩
    go_simp
    with_reducible rfl
  rotate_left
  · simp only [Act.put,qA,qB,qC,i64_w,i32_w]
    rfl
  refine pure_ (i:=42) (N:=some 53) (v:=?_) (a':=?_) #[true,true,true,true,true,true,true,true,true,true,true,true,true,true,true,true,true,true,true,true,true,true,true,true,true,true,true,true,true,true,true,true,true,true,true,true,true,true,true,true,true,true,true,false,false,false,false,false,false] rfl rfl (by kernel_rfl) (fun _ _ _ h=>h) (Or.inl ⟨by rfl,?_⟩) ?_ ?_
  rotate_left
  · intro w'
    go_simp
    with_reducible rfl
  rotate_left
  · simp only [Act.put,qA,qB,qC,i64_w,i32_w]
    rfl
  refine take_ (i:=43) (N:=some 54) (v:=?_) (a':=?_) #[true,true,true,true,true,true,true,true,true,true,true,true,true,true,true,true,true,true,true,true,true,true,true,true,true,true,true,true,true,true,true,true,true,true,true,true,true,true,true,true,true,true,true,true,false,false,false,false,false] rfl rfl (by kernel_rfl) (fun _ _ _ h=>h) (Or.inl ⟨by rfl,?_⟩) hHeld ?_ ?_
  rotate_left
  · rintro w' ⟨s0,s1,s2,s3,s4,s5,s6,s7,s8,s9,s10,s11,s12,s13⟩
    go_simp
    with_reducible rfl
  rotate_left
  · simp only [Act.put,qA,qB,qC,i64_w,i32_w]
    rfl
  refine one_ (i:=44) (N:=some 55) #[true,true,true,true,true,true,true,true,true,true,true,true,true,true,true,true,true,true,true,true,true,true,true,true,true,true,true,true,true,true,true,true,true,true,true,true,true,true,true,true,true,true,true,true,true,false,false,false,false] rfl rfl (by kernel_rfl) (by decide) (fun K hK=>?_)
  refine goes_ Try.func11 (by kernel_rfl) rfl #[.agg #[.string wkF.f0,.slice B1 wkF.f1.length d1,.int .i64 wkF.f2,.slice B3 wkF.f3.length d3,.int .i64 wkF.f4]] (by rfl) rfl rfl (by simp only [List.map_toArray,List.map_cons,List.map_nil];rfl) ?_
  with_reducible refine (show_Func.calls wkF.f0 B1 d1 wkF.f1 wkF.f2 B3 d3 wkF.f3 wkF.f4 wkFT _ (Kd.C_below HG1.out HY7.out) HL1.out.1 (Kd.C_below HG3.out HY7.out) HL1.out.2 wk_f).mono ?_
  rintro e wq8 ⟨rfl,hb_⟩
  refine ⟨_,rfl,?_⟩
  have HY8:=aM (below_step HY7.out hb_)
  clear hb_
  refine hK.out _ _ ⟨(pw_cell_below HY8.out HZ0.out),(pw_cell_below HY8.out HZ1.out),(pw_cell_below HY8.out HZ2.out),(pw_cell_below HY8.out HZ3.out),(pw_cell_below HY8.out HZ4.out),(pw_cell_below HY8.out HZ5.out),(pw_cell_below HY8.out HZ6.out),(pw_cell_below HY8.out HZ7.out),(pw_cell_below HY8.out HP0.out),(pw_cell_below HY8.out HQ0.out),(pw_cell_below HY8.out HQ1.out),(pw_cell_below HY8.out HQ2.out),(pw_cell_below HY8.out HQ3.out),(pw_cell_below HY8.out HQ4.out)⟩ (fun hHeld=>?_)
  clear hK K
  refine norm_ (a':=?_) ?_ ?_
  rotate_left
  · show Act.put _ (some 55) _=_
    simp only [Act.put,qA,qB,qC,i64_w,i32_w]
    rfl
  refine pure_ (i:=45) (N:=some 56) (v:=?_) (a':=?_) #[true,true,true,true,true,true,true,true,true,true,true,true,true,true,true,true,true,true,true,true,true,true,true,true,true,true,true,true,true,true,true,true,true,true,true,true,true,true,true,true,true,true,true,true,true,true,false,false,false] rfl rfl (by kernel_rfl) (fun _ _ _ h=>h) (Or.inl ⟨by rfl,?_⟩) ?_ ?_
  rotate_left
  · intro w'
    go_simp
    with_reducible rfl
  rotate_left
  · simp only [Act.put,qA,qB,qC,i64_w,i32_w]
    rfl
  refine pure_ (i:=46) (N:=some 57) (v:=?_) (a':=?_) #[true,true,true,true,true,true,true,true,true,true,true,true,true,true,true,true,true,true,true,true,true,true,true,true,true,true,true,true,true,true,true,true,true,true,true,true,true,true,true,true,true,true,true,true,true,true,true,false,false] rfl rfl (by kernel_rfl) (fun _ _ _ h=>h) (Or.inl ⟨by rfl,?_⟩) ?_ ?_
  rotate_left
  · intro w'
    go_simp
    with_reducible rfl
  rotate_left
  · simp only [Act.put,qA,qB,qC,i64_w,i32_w]
    rfl
  refine pure_ (i:=47) (N:=some 58) (v:=?_) (a':=?_) #[true,true,true,true,true,true,true,true,true,true,true,true,true,true,true,true,true,true,true,true,true,true,true,true,true,true,true,true,true,true,true,true,true,true,true,true,true,true,true,true,true,true,true,true,true,true,true,true,false] rfl rfl (by kernel_rfl) (fun _ _ _ h=>h) (Or.inl ⟨by rfl,?_⟩) ?_ ?_
  rotate_left
  · intro w'
    go_simp
    with_reducible rfl
  rotate_left
  · simp only [Act.put,qA,qB,qC,i64_w,i32_w]
    rfl
  refine pure_ (i:=48) (N:=some 0) (v:=?_) (a':=?_) #[true,true,true,true,true,true,true,true,true,true,true,true,true,true,true,true,true,true,true,true,true,true,true,true,true,true,true,true,true,true,true,true,true,true,true,true,true,true,true,true,true,true,true,true,true,true,true,true,true] rfl rfl (by kernel_rfl) (fun _ _ _ h=>h) (Or.inl ⟨by rfl,?_⟩) ?_ ?_
  rotate_left
  · intro w'
    go_simp
    with_reducible rfl
  rotate_left
  · simp only [Act.put,qA,qB,qC,i64_w,i32_w]
    rfl
  refine done_ (by kernel_rfl) ?_
  go_wp2
  go_ret
  exact ⟨rfl,below_step HB3.out HY8.out⟩
theorem ref_name_loop:∀ (rest pre:List UInt8),(pre++rest).length≤4611686018427387904→Ev (fun k=>r02_Name.l0 k (mk (pre++rest)) (pre.length:Int)) (nameFrom pre.length rest):=by
  intro rest
  induction rest with
  | nil=>
    intro pre _
    exact Ev.step (f:=fun _=>some true) (fun k=>by simp only [r02_Name.l0];rw [if_neg (by rw [mk_size];simp)]) (Ev.now _)
  | cons c rest ih=>
    intro pre hl
    have hsz:(pre.length:Int)<((mk (pre++c::rest)).size:Int):=by rw [mk_size];simp;omega
    have hw:wrap64 ((pre.length:Int)+1)=((pre++[c]).length:Int):=by
      rw [w64 (by omega) (by simp at hl;omega)];simp
    have hpre:pre++c::rest=(pre++[c])++rest:=by simp
    refine Ev.step (f:=fun k=>if nameC pre.length c=true then r02_Name.l0 k (mk ((pre++[c])++rest)) ((pre++[c]).length:Int) else some false) (fun k=>?_) ?_
    · simp only [r02_Name.l0]
      rw [if_pos hsz,if_pos (by omega),bt_pre,hw,← hpre]
      generalize r02_Name.l0 k (mk (pre++c::rest)) ((pre++[c]).length:Int)=z
      unfold nameC
      have q6:((pre.length:Int)=0)=(pre.length=0):=by simp
      have q5:((c.toNat:Int)=95)=(c.toNat=95):=by apply propext;omega
      have q1:((c.toNat:Int)≥97)=(97≤c.toNat):=by apply propext;omega
      have q2:((c.toNat:Int)≥48)=(48≤c.toNat):=by apply propext;omega
      have q3:((c.toNat:Int)≤122)=(c.toNat≤122):=by apply propext;omega
      have q4:((c.toNat:Int)≤57)=(c.toNat≤57):=by apply propext;omega
      simp only [q1,q2,q3,q4,q5,q6]
      by_cases p1:97≤c.toNat<;>by_cases p2:48≤c.toNat<;>by_cases p3:c.toNat≤122<;>by_cases p4:c.toNat≤57<;>by_cases p5:c.toNat=95<;>by_cases p6:pre.length=0<;>first | (exfalso;omega) | simp [p1,p2,p3,p4,p5,p6]
    · have e:nameFrom pre.length (c::rest)=(nameC pre.length c && nameFrom (pre++[c]).length rest):=by rw [nameFrom];simp
      rw [e]
      refine ev_if (fun h=>?_) (fun h=>?_)
      · rw [h,Bool.true_and];exact ih (pre++[c]) (by rw [← hpre];exact hl)
      · have:nameC pre.length c=false:=by simpa using h
        rw [this,Bool.false_and];exact Ev.now _
theorem ref_name_ev (l:List UInt8) (hl:l.length≤4611686018427387904):Ev (fun k=>r02_Name.f k (mk l)) (nameL l):=by
  unfold r02_Name.f
  rw [mk_size]
  have j:∀ b:Bool,(b=true→nameL l=false)→(b=false→nameL l=nameFrom 0 l)→Ev (fun k=>r02_Name.j0 k (mk l) b) (nameL l):=by
    intro b h1 h2
    cases b with
    | true=>rw [h1 rfl];exact Ev.step (f:=fun _=>some false) (fun k=>by simp [r02_Name.j0]) (Ev.now _)
    | false=>rw [h2 rfl];exact Ev.step (f:=fun k=>r02_Name.l0 k (mk ([]++l)) (([]:List UInt8).length:Int)) (fun k=>by simp [r02_Name.j0]) (ref_name_loop l [] hl)
  refine ev_if (fun h=>?_) (fun h=>?_)
  · have:l=[]:=List.length_eq_zero_iff.1 (by omega)
    subst this
    exact j true (fun _=>rfl) (fun e=>by cases e)
  · have hne:l.isEmpty=false:=by cases l with
      | nil=>simp at h
      | cons _ _=>rfl
    refine j _ (fun e=>?_) (fun e=>?_)
    · have:¬ l.length≤24:=by have:=of_decide_eq_true e;omega
      simp [nameL,this]
    · have:l.length≤24:=by have:=of_decide_eq_false e;omega
      simp [nameL,this,hne]
theorem mem_rd_ {α:Type} (l:List α) (z:α) (x:Int) (h0:0≤x) (h1:x<(l.length:Int)):l.getD x.toNat z∈l:=by
  have h:x.toNat<l.length:=by omega
  rw [List.getD_eq_getElem?_getD,List.getElem?_eq_getElem h]
  exact List.getElem_mem h
end Go.Proofs.Ytkjdblbgmomieaa.PSh
end
