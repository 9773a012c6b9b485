import Derived.Test.YtkjdblbgmomieaaMv2
import Derived.Test.YtkjdblbgmomieaaMv28
import Derived.Test.YtkjdblbgmomieaaMv3
section
namespace Go.Proofs.Ytkjdblbgmomieaa.PSh
set_option maxHeartbeats 8000000
set_option maxRecDepth 100000
open Go.RowKit Go.Proofs.YtkjdblbgmomieaaW.PrintWords Go.Proofs.YtkjdblbgmomieaaW.PrintLast Go.Proofs.YtkjdblbgmomieaaW.PrintMore Go.Proofs.Ytkjdblbgmomieaa.Zip
attribute [local go_sem] max2_int min2_int max_two min_two max_three min_three max_four min_four   -- for this text's walks alone
set_option linter.unusedVariables false
set_option linter.unusedSimpArgs false
mutual
def r07_Whole.l0:Nat→Int→Int→List (S34)→Option (Int × Int)
 | 0,_,_,_=>none
 | k+1,x3,x4,x164000=>if x4<(x164000.length:Int) then (if 0≤x4 then ((r07_head.f k ((rd_T34 x164000 x4).f0) ((rd_T34 x164000 x4).f1) ((rd_T34 x164000 x4).f2) ((rd_T34 x164000 x4).f3) ((rd_T34 x164000 x4).f4) x4).bind fun t167=>(if t167=0 then (r07_Whole.l1 k x3 x4 0 x164000 ((rd_T34 x164000 x4).f0) ((rd_T34 x164000 x4).f1) ((rd_T34 x164000 x4).f2) ((rd_T34 x164000 x4).f3) ((rd_T34 x164000 x4).f4)) else (some (t167,x4)))) else (none)) else (some (0,0))
def r07_Whole.l1:Nat→Int→Int→Int→List (S34)→ByteArray→List Int→Int→List (List (S39))→Int→Option (Int × Int)
 | 0,_,_,_,_,_,_,_,_,_=>none
 | k+1,x3,x4,x7,x164000,x167000,x167001,x167002,x167003,x167004=>if x7<(x167003.length:Int) then (r07_Whole.l2 k x3 x4 x7 0 x164000 x167000 x167001 x167002 x167003 x167004) else (r07_Whole.l0 k x3 (wrap64 (x4+1)) x164000)
def r07_Whole.l2:Nat→Int→Int→Int→Int→List (S34)→ByteArray→List Int→Int→List (List (S39))→Int→Option (Int × Int)
 | 0,_,_,_,_,_,_,_,_,_,_=>none
 | k+1,x3,x4,x7,x8,x164000,x167000,x167001,x167002,x167003,x167004=>if 0≤x7 then (if x7<(x167003.length:Int) then (if x8<((rd_L4 x167003 x7).length:Int) then (if (wrap64 (x3+1))>4096 then (some (6,x4)) else (if 0≤x8 then ((r07_Check.f k ((rd_T39 (rd_L4 x167003 x7) x8).f0) ((rd_T39 (rd_L4 x167003 x7) x8).f1) ((rd_T39 (rd_L4 x167003 x7) x8).f2) ((rd_T39 (rd_L4 x167003 x7) x8).f3) ((rd_T39 (rd_L4 x167003 x7) x8).f4) ((rd_T39 (rd_L4 x167003 x7) x8).f5) ((rd_T39 (rd_L4 x167003 x7) x8).f6) ((rd_T39 (rd_L4 x167003 x7) x8).f7)).bind fun t171=>(if t171=0 then (r07_Whole.l2 k (wrap64 (x3+1)) x4 x7 (wrap64 (x8+1)) x164000 x167000 x167001 x167002 x167003 x167004) else (some (t171,x4)))) else (none))) else (r07_Whole.l1 k x3 x4 (wrap64 (x7+1)) x164000 x167000 x167001 x167002 x167003 x167004)) else (none)) else (none)
end
def r07_Whole.f (k:Nat) (l0_0:List (S34)):Option (Int × Int):=r07_Whole.l0 k 0 0 l0_0
theorem r07_Whole.calls (k:Nat) (A0_0:Option Addr) (c0_0:Nat) (l0_0:List (S34)) (r1:Int) (r2:Int) (w:World) (hr0_0:Kd.C k34 w A0_0 l0_0.length l0_0) (hc0_0:l0_0.length≤c0_0) (h:r07_Whole.f k l0_0=some (r1,r2)):
  Calls Try.prog 9 #[.agg #[.slice A0_0 l0_0.length c0_0]] w fun e w'=>e=.returned (.agg #[.int .i64 r1,.int .i64 r2])∧Below w.heap.size w w':=by
 have HR0_0:=aM hr0_0
 clear hr0_0 hc0_0
 have HB:=aM (Below.refl w.heap.size w)
 have H:(r07_Whole.l0 k 0 0 l0_0)=some (r1,r2):=h
 clear h
 have H':=aM H
 clear H
 go_enter Try.func9,Try.ntmps9
 go_wp2_with (first | ((with_reducible refine gate_dst (N:=1) rfl ?_);refine box_event ?hg (N:=1) ?hd (cs:=#[.slice A0_0 l0_0.length c0_0]) (t:=24) ?hr ?_;(case hd=>rfl);(case hg=>rfl);(case hr=>first | (go_simp;done) | (go_simp;rfl));intro gb163 hg w2 hbox hb;have n0_:=aM (below_step (zB HB.out) hb);have n1_:=aM (hbox);have n2_:=aM ((by rw [hg];exact (below_size (zB HB.out)):w.heap.size≤gb163));have n3_:=aM ((by rw [hg];exact (below_size (zB HB.out)):w.heap.size≤gb163));clear HB;have HB:=n0_;have BK163:=n1_;have GE163:=n3_;clear n0_ n1_ n2_ n3_;clear hb hbox hg) | ((with_reducible refine gate_dst (N:=2) rfl ?_);refine box_event ?hg (N:=2) ?hd (cs:=#[.int .i64 0,.int .i64 0]) (t:=28) ?hr ?_;(case hd=>rfl);(case hg=>rfl);(case hr=>first | (go_simp;done) | (go_simp;rfl));intro gb164 hg w3 hbox hb;have n0_:=aM (blk_below (g:=gb163) (o:=.cells #[.slice A0_0 l0_0.length c0_0] 24 (0,0)) (zK BK163.out) hb);have n1_:=aM (below_step (zC HB.out GE163.out) hb);have n2_:=aM (hbox);have n3_:=aM ((by rw [hg];exact (below_size (zC HB.out GE163.out)):w.heap.size≤gb164));have n4_:=aM ((by rw [hg];exact (below_size (zC HB.out GE163.out)):w.heap.size≤gb164));have n5_:=aM ((by rw [hg];exact Nat.ne_of_lt (blk_lt (g:=gb163) (o:=.cells #[.slice A0_0 l0_0.length c0_0] 24 (0,0)) (zK BK163.out)):gb163≠gb164));have n6_:=aM ((by rw [hg];exact Nat.ne_of_gt (blk_lt (g:=gb163) (o:=.cells #[.slice A0_0 l0_0.length c0_0] 24 (0,0)) (zK BK163.out)):gb164≠gb163));clear BK163;clear HB;have BK163:=n0_;have HB:=n1_;have BK164:=n2_;have GE164:=n4_;have NB163_164:=n5_;have NB164_163:=n6_;clear n0_ n1_ n2_ n3_ n4_ n5_ n6_;clear hb hbox hg))
 go_loopg [3,4] k (fun kq v3 v4 w'=>∃ (x3_1:Int) (x4_1:Int) (x165000_1:Int) (x165001_1:Int),v3=.int .i64 x3_1∧v4=.int .i64 x4_1∧Aside0 (r07_Whole.l0 kq x3_1 x4_1 l0_0=some (r1,r2))∧Aside0 (kq≤k)∧Aside0 (w'.heap[gb163]?=some (.cells #[(.slice A0_0 l0_0.length c0_0)] 24 (0,0)))∧Aside0 (w'.heap[gb164]?=some (.cells #[.int .i64 x165000_1,.int .i64 x165001_1] 28 (0,0)))∧Aside0 (Below w.heap.size w w'))
 case atStart=>exact ⟨(0),(0),(0),(0),(by first | rfl | (simp;done) | (simp [*];done)),(by first | rfl | (simp;done) | (simp [*];done)),H',⟨Nat.le_refl _⟩,⟨zK BK163.out⟩,⟨zK BK164.out⟩,⟨zD HB.out GE163.out GE164.out⟩⟩
 case round=>
  clear H'
  obtain ⟨x3_1,x4_1,x165000_1,x165001_1,rfl,rfl,HA,HK1,BK163,BK164,HB⟩:=hrel
  cases gk with
  | zero=>exact absurd HA.out (by simp [r07_Whole.l0])
  | succ k1=>
   have H:=HA.out
   clear HA
   simp only [r07_Whole.l0] at H
   by_cases c4:x4_1<(l0_0.length:Int)
   ·rw [if_pos c4] at H
    have c4b0:decide (x4_1<(l0_0.length:Int))=true:=decide_eq_true c4
    clear c4
    by_cases c5:0≤x4_1
    ·rw [if_pos c5] at H
     have c5b0:decide (0≤x4_1)=true:=decide_eq_true c5
     clear c5
     replace H:=Option.bind_eq_some_iff.mp H
     obtain ⟨t167,A60,H⟩:=H
     have A6:=aM A60
     clear A60
     by_cases c7:t167=0
     ·rw [if_pos c7] at H
      have c7b1:(t167 !=0)=false:=bne_eq_false_iff_eq.mpr c7
      clear c7
      have H':=aM H
      clear H
      have hcz9_0:wr.cell? ⟨gb163,0,none⟩=some (.slice A0_0 l0_0.length c0_0):=(blk_cell BK163.out 0).trans rfl
      have p165:0≤(x4_1:Int):=of_decide_eq_true zS
      have q165:x4_1<(l0_0.length:Int):=of_decide_eq_true zS
      obtain ⟨ad165,A165_1,c165_1,A165_3,c165_3,e165,hx165_0,hx165_1,hx165_2,hx165_3,hx165_4,hl165_1,hi165_1,hl165_3,hi165_3⟩:=at_T34 HR0_0.out x4_1 p165 q165
      cases e165
      replace hx165_0:=(HB.out.cell (World.block_lt_of_cell? w _ hx165_0)).trans hx165_0
      replace hx165_1:=(HB.out.cell (World.block_lt_of_cell? w _ hx165_1)).trans hx165_1
      replace hx165_2:=(HB.out.cell (World.block_lt_of_cell? w _ hx165_2)).trans hx165_2
      replace hx165_3:=(HB.out.cell (World.block_lt_of_cell? w _ hx165_3)).trans hx165_3
      replace hx165_4:=(HB.out.cell (World.block_lt_of_cell? w _ hx165_4)).trans hx165_4
      have HR165_1:=aM hi165_1
      have HC165_1:=aM hl165_1
      clear hi165_1 hl165_1
      have HR165_3:=aM hi165_3
      have HC165_3:=aM hl165_3
      clear hi165_3 hl165_3
      replace p165:=eq_true p165
      replace q165:=eq_true q165
      go_wp2_with (first | ((with_reducible refine gate_dst (N:=5) rfl ?_);refine box_event ?hg (N:=5) ?hd (cs:=#[.string (⟨#[]⟩:ByteArray),.slice none 0 0,.int .i64 0,.slice none 0 0,.int .i64 0]) (t:=34) ?hr ?_;(case hd=>rfl);(case hg=>rfl);(case hr=>first | (go_simp;done) | (go_simp;rfl));intro gb166 hg w10 hbox hb;have n0_:=aM (blk_below (g:=gb163) (o:=.cells #[.slice (some ad165) l0_0.length c0_0] 24 (0,0)) (zK BK163.out) hb);have n1_:=aM (blk_below (g:=gb164) (o:=.cells #[.int .i64 x165000_1,.int .i64 x165001_1] 28 (0,0)) (zK BK164.out) hb);have n2_:=aM (below_step (zD HB.out GE163.out GE164.out) hb);have n3_:=aM (hbox);have n4_:=aM ((by rw [hg];exact (below_size (zD HB.out GE163.out GE164.out)):w.heap.size≤gb166));have n5_:=aM ((by rw [hg];exact (below_size (zD HB.out GE163.out GE164.out)):w.heap.size≤gb166));have n6_:=aM ((by rw [hg];exact Nat.ne_of_lt (blk_lt (g:=gb163) (o:=.cells #[.slice (some ad165) l0_0.length c0_0] 24 (0,0)) (zK BK163.out)):gb163≠gb166));have n7_:=aM ((by rw [hg];exact Nat.ne_of_gt (blk_lt (g:=gb163) (o:=.cells #[.slice (some ad165) l0_0.length c0_0] 24 (0,0)) (zK BK163.out)):gb166≠gb163));have n8_:=aM ((by rw [hg];exact Nat.ne_of_lt (blk_lt (g:=gb164) (o:=.cells #[.int .i64 x165000_1,.int .i64 x165001_1] 28 (0,0)) (zK BK164.out)):gb164≠gb166));have n9_:=aM ((by rw [hg];exact Nat.ne_of_gt (blk_lt (g:=gb164) (o:=.cells #[.int .i64 x165000_1,.int .i64 x165001_1] 28 (0,0)) (zK BK164.out)):gb166≠gb164));clear BK163;clear BK164;clear HB;have BK163:=n0_;have BK164:=n1_;have HB:=n2_;have BK166:=n3_;have GE166:=n5_;have NB163_166:=n6_;have NB166_163:=n7_;have NB164_166:=n8_;have NB166_164:=n9_;clear n0_ n1_ n2_ n3_ n4_ n5_ n6_ n7_ n8_ n9_;clear hb hbox hg;have hcz13_0:w10.cell? ⟨gb166,0,none⟩=some (.string (⟨#[]⟩:ByteArray)):=(blk_cell BK166.out 0).trans rfl;have hcz13_1:w10.cell? ⟨gb166,1,none⟩=some (.slice none 0 0):=(blk_cell BK166.out 1).trans rfl;have hcz13_2:w10.cell? ⟨gb166,2,none⟩=some (.int .i64 0):=(blk_cell BK166.out 2).trans rfl;have hcz13_3:w10.cell? ⟨gb166,3,none⟩=some (.slice none 0 0):=(blk_cell BK166.out 3).trans rfl;have hcz13_4:w10.cell? ⟨gb166,4,none⟩=some (.int .i64 0):=(blk_cell BK166.out 4).trans rfl;have hfz13_0:=blk_frozen BK166.out 0;have hfz13_1:=blk_frozen BK166.out 1;have hfz13_2:=blk_frozen BK166.out 2;have hfz13_3:=blk_frozen BK166.out 3;have hfz13_4:=blk_frozen BK166.out 4) | ((with_reducible refine gate_callee (f:=28) rfl ?_);refine goesL_ (some 24) rfl rfl Try.func28 (by kernel_rfl) rfl #[.agg #[.string ((rd_T34 l0_0 x4_1).f0),.slice A165_1 ((rd_T34 l0_0 x4_1).f1).length c165_1,.int .i64 ((rd_T34 l0_0 x4_1).f2),.slice A165_3 ((rd_T34 l0_0 x4_1).f3).length c165_3,.int .i64 ((rd_T34 l0_0 x4_1).f4)],.int .i64 x4_1] rfl zA ?_;(with_reducible refine (r07_head.calls k1 ((rd_T34 l0_0 x4_1).f0) _ _ ((rd_T34 l0_0 x4_1).f1) ((rd_T34 l0_0 x4_1).f2) _ _ ((rd_T34 l0_0 x4_1).f3) ((rd_T34 l0_0 x4_1).f4) x4_1 t167 _ ?side1 ?side2 ?side3 ?side4 A6.out).mono ?_);(case side1=>exact Kd.C_below HR165_1.out (zE HB.out GE163.out GE164.out GE166.out));(case side2=>exact HC165_1.out);(case side3=>exact Kd.C_below HR165_3.out (zE HB.out GE163.out GE164.out GE166.out));(case side4=>exact HC165_3.out);rintro e w14 ⟨rfl,hb⟩;refine ⟨_,rfl,?_⟩;have n0_:=aM (blk_below (g:=gb163) (o:=.cells #[.slice (some ad165) l0_0.length c0_0] 24 (0,0)) (by (with_reducible repeat (first | refine blk_drewN ?_ _ | refine blk_drew ?_ | refine blk_alloc ?_ _));refine blk_far ?_ NB163_166.out _;(with_reducible repeat (first | refine blk_drewN ?_ _ | refine blk_drew ?_ | refine blk_alloc ?_ _));refine blk_far ?_ NB163_166.out _;(with_reducible repeat (first | refine blk_drewN ?_ _ | refine blk_drew ?_ | refine blk_alloc ?_ _));refine blk_far ?_ NB163_166.out _;(with_reducible repeat (first | refine blk_drewN ?_ _ | refine blk_drew ?_ | refine blk_alloc ?_ _));refine blk_far ?_ NB163_166.out _;(with_reducible repeat (first | refine blk_drewN ?_ _ | refine blk_drew ?_ | refine blk_alloc ?_ _));refine blk_far ?_ NB163_166.out _;(with_reducible repeat (first | refine blk_drewN ?_ _ | refine blk_drew ?_ | refine blk_alloc ?_ _));exact BK163.out) hb);have n1_:=aM (blk_below (g:=gb164) (o:=.cells #[.int .i64 x165000_1,.int .i64 x165001_1] 28 (0,0)) (by (with_reducible repeat (first | refine blk_drewN ?_ _ | refine blk_drew ?_ | refine blk_alloc ?_ _));refine blk_far ?_ NB164_166.out _;(with_reducible repeat (first | refine blk_drewN ?_ _ | refine blk_drew ?_ | refine blk_alloc ?_ _));refine blk_far ?_ NB164_166.out _;(with_reducible repeat (first | refine blk_drewN ?_ _ | refine blk_drew ?_ | refine blk_alloc ?_ _));refine blk_far ?_ NB164_166.out _;(with_reducible repeat (first | refine blk_drewN ?_ _ | refine blk_drew ?_ | refine blk_alloc ?_ _));refine blk_far ?_ NB164_166.out _;(with_reducible repeat (first | refine blk_drewN ?_ _ | refine blk_drew ?_ | refine blk_alloc ?_ _));refine blk_far ?_ NB164_166.out _;(with_reducible repeat (first | refine blk_drewN ?_ _ | refine blk_drew ?_ | refine blk_alloc ?_ _));exact BK164.out) hb);have n2_:=aM (blk_below (g:=gb166) (o:=.cells #[.string ((rd_T34 l0_0 x4_1).f0),.slice A165_1 ((rd_T34 l0_0 x4_1).f1).length c165_1,.int .i64 ((rd_T34 l0_0 x4_1).f2),.slice A165_3 ((rd_T34 l0_0 x4_1).f3).length c165_3,.int .i64 ((rd_T34 l0_0 x4_1).f4)] 34 (0,0)) (by (with_reducible repeat (first | refine blk_drewN ?_ _ | refine blk_drew ?_ | refine blk_alloc ?_ _));refine blk_put (cs:=#[.string ((rd_T34 l0_0 x4_1).f0),.slice A165_1 ((rd_T34 l0_0 x4_1).f1).length c165_1,.int .i64 ((rd_T34 l0_0 x4_1).f2),.slice A165_3 ((rd_T34 l0_0 x4_1).f3).length c165_3,.int .i64 0]) ?_ 4 _ rfl;(with_reducible repeat (first | refine blk_drewN ?_ _ | refine blk_drew ?_ | refine blk_alloc ?_ _));refine blk_put (cs:=#[.string ((rd_T34 l0_0 x4_1).f0),.slice A165_1 ((rd_T34 l0_0 x4_1).f1).length c165_1,.int .i64 ((rd_T34 l0_0 x4_1).f2),.slice none 0 0,.int .i64 0]) ?_ 3 _ rfl;(with_reducible repeat (first | refine blk_drewN ?_ _ | refine blk_drew ?_ | refine blk_alloc ?_ _));refine blk_put (cs:=#[.string ((rd_T34 l0_0 x4_1).f0),.slice A165_1 ((rd_T34 l0_0 x4_1).f1).length c165_1,.int .i64 0,.slice none 0 0,.int .i64 0]) ?_ 2 _ rfl;(with_reducible repeat (first | refine blk_drewN ?_ _ | refine blk_drew ?_ | refine blk_alloc ?_ _));refine blk_put (cs:=#[.string ((rd_T34 l0_0 x4_1).f0),.slice none 0 0,.int .i64 0,.slice none 0 0,.int .i64 0]) ?_ 1 _ rfl;(with_reducible repeat (first | refine blk_drewN ?_ _ | refine blk_drew ?_ | refine blk_alloc ?_ _));refine blk_put (cs:=#[.string (⟨#[]⟩:ByteArray),.slice none 0 0,.int .i64 0,.slice none 0 0,.int .i64 0]) ?_ 0 _ rfl;(with_reducible repeat (first | refine blk_drewN ?_ _ | refine blk_drew ?_ | refine blk_alloc ?_ _));exact BK166.out) hb);have n3_:=aM (below_step (zE HB.out GE163.out GE164.out GE166.out) hb);clear BK163;clear BK164;clear BK166;clear HB;have BK163:=n0_;have BK164:=n1_;have BK166:=n2_;have HB:=n3_;clear n0_ n1_ n2_ n3_;(try clear hb);(try clear hb2);(try clear hk);(try clear hi)))
      go_loopg [3,7] k1 (fun kq v3 v7 w'=>∃ (x3_2:Int) (x7_2:Int) (x165000_2:Int) (x165001_2:Int),v3=.int .i64 x3_2∧v7=.int .i64 x7_2∧Aside0 (r07_Whole.l1 kq x3_2 x4_1 x7_2 l0_0 ((rd_T34 l0_0 x4_1).f0) ((rd_T34 l0_0 x4_1).f1) ((rd_T34 l0_0 x4_1).f2) ((rd_T34 l0_0 x4_1).f3) ((rd_T34 l0_0 x4_1).f4)=some (r1,r2))∧Aside0 (kq≤k1)∧Aside0 (w'.heap[gb163]?=some (.cells #[(.slice (some ad165) l0_0.length c0_0)] 24 (0,0)))∧Aside0 (w'.heap[gb164]?=some (.cells #[.int .i64 x165000_2,.int .i64 x165001_2] 28 (0,0)))∧Aside0 (w'.heap[gb166]?=some (.cells #[.string ((rd_T34 l0_0 x4_1).f0),(.slice A165_1 ((rd_T34 l0_0 x4_1).f1).length c165_1),.int .i64 ((rd_T34 l0_0 x4_1).f2),(.slice A165_3 ((rd_T34 l0_0 x4_1).f3).length c165_3),.int .i64 ((rd_T34 l0_0 x4_1).f4)] 34 (0,0)))∧Aside0 (Below w.heap.size w w'))
      case atStart=>exact ⟨(x3_1),(0),(x165000_1),(x165001_1),(by first | rfl | (simp;done) | (simp [*];done)),(by first | rfl | (simp;done) | (simp [*];done)),H',⟨Nat.le_refl _⟩,⟨zK BK163.out⟩,⟨zK BK164.out⟩,⟨zK BK166.out⟩,⟨zE HB.out GE163.out GE164.out GE166.out⟩⟩
      case round=>
       clear H' c4b0 c5b0 c7b1 hcz13_0 hcz13_1 hcz13_2 hcz13_3 hcz13_4 hcz9_0 hfz13_0 hfz13_1 hfz13_2 hfz13_3 hfz13_4 hx165_0 hx165_1 hx165_2 hx165_3 hx165_4 p165 q165
       obtain ⟨x3_2,x7_2,x165000_2,x165001_2,rfl,rfl,HA,HK2,BK163,BK164,BK166,HB⟩:=hrel
       cases gk with
       | zero=>exact absurd HA.out (by simp [r07_Whole.l1])
       | succ k2=>
        have H:=HA.out
        clear HA
        simp only [r07_Whole.l1] at H
        by_cases c15:x7_2<(((rd_T34 l0_0 x4_1).f3).length:Int)
        ·rw [if_pos c15] at H
         have c15b0:decide (x7_2<(((rd_T34 l0_0 x4_1).f3).length:Int))=true:=decide_eq_true c15
         clear c15
         have H':=aM H
         clear H
         have hcz18_3:wr.cell? ⟨gb166,3,none⟩=some (.slice A165_3 ((rd_T34 l0_0 x4_1).f3).length c165_3):=(blk_cell BK166.out 3).trans rfl
         go_wp2
         go_loopg [3,8] k2 (fun kq v3 v8 w'=>∃ (x3_3:Int) (x8_3:Int) (x165000_3:Int) (x165001_3:Int),v3=.int .i64 x3_3∧v8=.int .i64 x8_3∧Aside0 (r07_Whole.l2 kq x3_3 x4_1 x7_2 x8_3 l0_0 ((rd_T34 l0_0 x4_1).f0) ((rd_T34 l0_0 x4_1).f1) ((rd_T34 l0_0 x4_1).f2) ((rd_T34 l0_0 x4_1).f3) ((rd_T34 l0_0 x4_1).f4)=some (r1,r2))∧Aside0 (kq≤k2)∧Aside0 (w'.heap[gb163]?=some (.cells #[(.slice (some ad165) l0_0.length c0_0)] 24 (0,0)))∧Aside0 (w'.heap[gb164]?=some (.cells #[.int .i64 x165000_3,.int .i64 x165001_3] 28 (0,0)))∧Aside0 (w'.heap[gb166]?=some (.cells #[.string ((rd_T34 l0_0 x4_1).f0),(.slice A165_1 ((rd_T34 l0_0 x4_1).f1).length c165_1),.int .i64 ((rd_T34 l0_0 x4_1).f2),(.slice A165_3 ((rd_T34 l0_0 x4_1).f3).length c165_3),.int .i64 ((rd_T34 l0_0 x4_1).f4)] 34 (0,0)))∧Aside0 (Below w.heap.size w w'))
         case atStart=>exact ⟨(x3_2),(0),(x165000_2),(x165001_2),(by first | rfl | (simp;done) | (simp [*];done)),(by first | rfl | (simp;done) | (simp [*];done)),H',⟨Nat.le_refl _⟩,⟨zK BK163.out⟩,⟨zK BK164.out⟩,⟨zK BK166.out⟩,⟨zE HB.out GE163.out GE164.out GE166.out⟩⟩
         case round=>
          clear H' c15b0 hcz18_3
          obtain ⟨x3_3,x8_3,x165000_3,x165001_3,rfl,rfl,HA,HK3,BK163,BK164,BK166,HB⟩:=hrel
          cases gk with
          | zero=>exact absurd HA.out (by simp [r07_Whole.l2])
          | succ k3=>
           have H:=HA.out
           clear HA
           simp only [r07_Whole.l2] at H
           by_cases c19:0≤x7_2
           ·rw [if_pos c19] at H
            have c19b0:decide (0≤x7_2)=true:=decide_eq_true c19
            clear c19
            by_cases c20:x7_2<(((rd_T34 l0_0 x4_1).f3).length:Int)
            ·rw [if_pos c20] at H
             have c20b0:decide (x7_2<(((rd_T34 l0_0 x4_1).f3).length:Int))=true:=decide_eq_true c20
             clear c20
             by_cases c21:x8_3<((rd_L4 ((rd_T34 l0_0 x4_1).f3) x7_2).length:Int)
             ·rw [if_pos c21] at H
              have c21b0:decide (x8_3<((rd_L4 ((rd_T34 l0_0 x4_1).f3) x7_2).length:Int))=true:=decide_eq_true c21
              clear c21
              by_cases c22:(wrap64 (x3_3+1))>4096
              ·rw [if_pos c22] at H
               have c22b0:decide (4096<(wrap64 (x3_3+1)))=true:=decide_eq_true c22
               clear c22
               simp only [Option.some.injEq,Prod.mk.injEq] at H
               obtain ⟨rfl,rfl⟩:=H
               have hcz25_3:wr.cell? ⟨gb166,3,none⟩=some (.slice A165_3 ((rd_T34 l0_0 x4_1).f3).length c165_3):=(blk_cell BK166.out 3).trans rfl
               have p168:0≤(x7_2:Int):=of_decide_eq_true zS
               have q168:x7_2<(((rd_T34 l0_0 x4_1).f3).length:Int):=of_decide_eq_true zS
               obtain ⟨ad168,A168_0,c168_0,e168,hx168_0,hl168_0,hi168_0⟩:=at_L4 HR165_3.out x7_2 p168 q168
               cases e168
               replace hx168_0:=(HB.out.cell (World.block_lt_of_cell? w _ hx168_0)).trans hx168_0
               have HR168_0:=aM hi168_0
               clear hi168_0 hl168_0
               replace p168:=eq_true p168
               replace q168:=eq_true q168
               have hcz27_0:wr.cell? ⟨gb164,0,none⟩=some (.int .i64 x165000_3):=(blk_cell BK164.out 0).trans rfl
               have hcz27_1:wr.cell? ⟨gb164,1,none⟩=some (.int .i64 x165001_3):=(blk_cell BK164.out 1).trans rfl
               have hfz27_0:=blk_frozen BK164.out 0
               have hfz27_1:=blk_frozen BK164.out 1
               go_wp2
               refine bodyPost_ret (results_cell_row rfl _ _ gb164 28 #[.int .i64 6,.int .i64 x4_1] (0,0) _ rfl (by (with_reducible repeat (first | refine blk_drewN ?_ _ | refine blk_drew ?_ | refine blk_alloc ?_ _));refine blk_put (cs:=#[.int .i64 6,.int .i64 x165001_3]) ?_ 1 _ rfl;(with_reducible repeat (first | refine blk_drewN ?_ _ | refine blk_drew ?_ | refine blk_alloc ?_ _));refine blk_put (cs:=#[.int .i64 x165000_3,.int .i64 x165001_3]) ?_ 0 _ rfl;(with_reducible repeat (first | refine blk_drewN ?_ _ | refine blk_drew ?_ | refine blk_alloc ?_ _));exact BK164.out) Try.underlying28 rfl (by kernel_rfl)) rfl ?_
               exact ⟨zF,zE HB.out GE163.out GE164.out GE166.out⟩
              ·rw [if_neg c22] at H
               have c22b0:decide (4096<(wrap64 (x3_3+1)))=false:=decide_eq_false c22
               clear c22
               by_cases c28:0≤x8_3
               ·rw [if_pos c28] at H
                have c28b0:decide (0≤x8_3)=true:=decide_eq_true c28
                clear c28
                replace H:=Option.bind_eq_some_iff.mp H
                obtain ⟨t171,A290,H⟩:=H
                have A29:=aM A290
                clear A290
                by_cases c30:t171=0
                ·rw [if_pos c30] at H
                 have c30b1:(t171 !=0)=false:=bne_eq_false_iff_eq.mpr c30
                 clear c30
                 have H':=aM H
                 clear H
                 have hcz33_3:wr.cell? ⟨gb166,3,none⟩=some (.slice A165_3 ((rd_T34 l0_0 x4_1).f3).length c165_3):=(blk_cell BK166.out 3).trans rfl
                 have p168:0≤(x7_2:Int):=of_decide_eq_true zS
                 have q168:x7_2<(((rd_T34 l0_0 x4_1).f3).length:Int):=of_decide_eq_true zS
                 obtain ⟨ad168,A168_0,c168_0,e168,hx168_0,hl168_0,hi168_0⟩:=at_L4 HR165_3.out x7_2 p168 q168
                 cases e168
                 replace hx168_0:=(HB.out.cell (World.block_lt_of_cell? w _ hx168_0)).trans hx168_0
                 have HR168_0:=aM hi168_0
                 clear hi168_0 hl168_0
                 replace p168:=eq_true p168
                 replace q168:=eq_true q168
                 have p169:0≤(x7_2:Int):=of_decide_eq_true zS
                 have q169:x7_2<(((rd_T34 l0_0 x4_1).f3).length:Int):=of_decide_eq_true zS
                 obtain ⟨ad169,A169_0,c169_0,e169,hx169_0,hl169_0,hi169_0⟩:=at_L4 HR165_3.out x7_2 p169 q169
                 obtain rfl:ad168=ad169:=(by injection e169)
                 replace hx169_0:=(HB.out.cell (World.block_lt_of_cell? w _ hx169_0)).trans hx169_0
                 have HR169_0:=aM hi169_0
                 have HC169_0:=aM hl169_0
                 clear hi169_0 hl169_0
                 replace p169:=eq_true p169
                 replace q169:=eq_true q169
                 have ea_:=Option.some.inj (hx168_0.symm.trans hx169_0)
                 injection ea_ with ea_ en_ ec_
                 subst ea_
                 subst ec_
                 clear en_
                 have p170:0≤(x8_3:Int):=of_decide_eq_true zS
                 have q170:x8_3<((rd_L4 ((rd_T34 l0_0 x4_1).f3) x7_2).length:Int):=of_decide_eq_true zS
                 obtain ⟨ad170,A170_4,c170_4,A170_5,c170_5,e170,hx170_0,hx170_1,hx170_2,hx170_3,hx170_4,hx170_5,hx170_6,hx170_7,hl170_4,hi170_4,hl170_5,hi170_5⟩:=at_T39 HR169_0.out x8_3 p170 q170
                 cases e170
                 replace hx170_0:=(HB.out.cell (World.block_lt_of_cell? w _ hx170_0)).trans hx170_0
                 replace hx170_1:=(HB.out.cell (World.block_lt_of_cell? w _ hx170_1)).trans hx170_1
                 replace hx170_2:=(HB.out.cell (World.block_lt_of_cell? w _ hx170_2)).trans hx170_2
                 replace hx170_3:=(HB.out.cell (World.block_lt_of_cell? w _ hx170_3)).trans hx170_3
                 replace hx170_4:=(HB.out.cell (World.block_lt_of_cell? w _ hx170_4)).trans hx170_4
                 replace hx170_5:=(HB.out.cell (World.block_lt_of_cell? w _ hx170_5)).trans hx170_5
                 replace hx170_6:=(HB.out.cell (World.block_lt_of_cell? w _ hx170_6)).trans hx170_6
                 replace hx170_7:=(HB.out.cell (World.block_lt_of_cell? w _ hx170_7)).trans hx170_7
                 have HR170_4:=aM hi170_4
                 have HC170_4:=aM hl170_4
                 clear hi170_4 hl170_4
                 have HR170_5:=aM hi170_5
                 have HC170_5:=aM hl170_5
                 clear hi170_5 hl170_5
                 replace p170:=eq_true p170
                 replace q170:=eq_true q170
                 go_wp2_with (first | ((with_reducible refine gate_callee (f:=18) rfl ?_);refine goesL_ (some 61) rfl rfl Try.func18 (by kernel_rfl) rfl #[.agg #[.int .i64 ((rd_T39 (rd_L4 ((rd_T34 l0_0 x4_1).f3) x7_2) x8_3).f0),.int .i64 ((rd_T39 (rd_L4 ((rd_T34 l0_0 x4_1).f3) x7_2) x8_3).f1),.int .i64 ((rd_T39 (rd_L4 ((rd_T34 l0_0 x4_1).f3) x7_2) x8_3).f2),.int .i64 ((rd_T39 (rd_L4 ((rd_T34 l0_0 x4_1).f3) x7_2) x8_3).f3),.slice A170_4 ((rd_T39 (rd_L4 ((rd_T34 l0_0 x4_1).f3) x7_2) x8_3).f4).length c170_4,.slice A170_5 ((rd_T39 (rd_L4 ((rd_T34 l0_0 x4_1).f3) x7_2) x8_3).f5).length c170_5,.string ((rd_T39 (rd_L4 ((rd_T34 l0_0 x4_1).f3) x7_2) x8_3).f6),.int .i64 ((rd_T39 (rd_L4 ((rd_T34 l0_0 x4_1).f3) x7_2) x8_3).f7)]] rfl zA ?_;(with_reducible refine (r07_Check.calls k3 ((rd_T39 (rd_L4 ((rd_T34 l0_0 x4_1).f3) x7_2) x8_3).f0) ((rd_T39 (rd_L4 ((rd_T34 l0_0 x4_1).f3) x7_2) x8_3).f1) ((rd_T39 (rd_L4 ((rd_T34 l0_0 x4_1).f3) x7_2) x8_3).f2) ((rd_T39 (rd_L4 ((rd_T34 l0_0 x4_1).f3) x7_2) x8_3).f3) _ _ ((rd_T39 (rd_L4 ((rd_T34 l0_0 x4_1).f3) x7_2) x8_3).f4) _ _ ((rd_T39 (rd_L4 ((rd_T34 l0_0 x4_1).f3) x7_2) x8_3).f5) ((rd_T39 (rd_L4 ((rd_T34 l0_0 x4_1).f3) x7_2) x8_3).f6) ((rd_T39 (rd_L4 ((rd_T34 l0_0 x4_1).f3) x7_2) x8_3).f7) t171 _ ?side1 ?side2 ?side3 ?side4 A29.out).mono ?_);(case side1=>repeat (first | exact (Kd.C_below HR170_4.out HB.out) | (with_reducible refine Kd.C_alloc ?_ _) | (with_reducible refine Kd.C_drewN ?_ _) | (with_reducible refine Kd.C_drew ?_)));(case side2=>exact HC170_4.out);(case side3=>repeat (first | exact (Kd.C_below HR170_5.out HB.out) | (with_reducible refine Kd.C_alloc ?_ _) | (with_reducible refine Kd.C_drewN ?_ _) | (with_reducible refine Kd.C_drew ?_)));(case side4=>exact HC170_5.out);rintro e w34 ⟨rfl,hb⟩;refine ⟨_,rfl,?_⟩;have n0_:=aM (blk_below (g:=gb163) (o:=.cells #[.slice (some ad165) l0_0.length c0_0] 24 (0,0)) (zK BK163.out) hb);have n1_:=aM (blk_below (g:=gb164) (o:=.cells #[.int .i64 x165000_3,.int .i64 x165001_3] 28 (0,0)) (zK BK164.out) hb);have n2_:=aM (blk_below (g:=gb166) (o:=.cells #[.string ((rd_T34 l0_0 x4_1).f0),.slice A165_1 ((rd_T34 l0_0 x4_1).f1).length c165_1,.int .i64 ((rd_T34 l0_0 x4_1).f2),.slice (some ad168) ((rd_T34 l0_0 x4_1).f3).length c165_3,.int .i64 ((rd_T34 l0_0 x4_1).f4)] 34 (0,0)) (zK BK166.out) hb);have n3_:=aM (below_step (zE HB.out GE163.out GE164.out GE166.out) hb);clear BK163;clear BK164;clear BK166;clear HB;have BK163:=n0_;have BK164:=n1_;have BK166:=n2_;have HB:=n3_;clear n0_ n1_ n2_ n3_;(try clear hb);(try clear hb2);(try clear hk);(try clear hi)))
                 go_roundg k3
                 case measure=>have:=HK1.out;have:=HK2.out;have:=HK3.out;omega
                 case rel=>exact ⟨(wrap64 (x3_3+1)),(wrap64 (x8_3+1)),(x165000_3),(x165001_3),(by first | rfl | (simp;done) | (simp [*];done)),(by first | rfl | (simp;done) | (simp [*];done)),H',⟨by have:=HK1.out;have:=HK2.out;have:=HK3.out;omega⟩,⟨zK BK163.out⟩,⟨zK BK164.out⟩,⟨zK BK166.out⟩,⟨zE HB.out GE163.out GE164.out GE166.out⟩⟩
                ·rw [if_neg c30] at H
                 have c30b1:(t171 !=0)=true:=bne_iff_ne.mpr c30
                 simp only [Option.some.injEq,Prod.mk.injEq] at H
                 obtain ⟨rfl,rfl⟩:=H
                 have hcz37_3:wr.cell? ⟨gb166,3,none⟩=some (.slice A165_3 ((rd_T34 l0_0 x4_1).f3).length c165_3):=(blk_cell BK166.out 3).trans rfl
                 have p168:0≤(x7_2:Int):=of_decide_eq_true zS
                 have q168:x7_2<(((rd_T34 l0_0 x4_1).f3).length:Int):=of_decide_eq_true zS
                 obtain ⟨ad168,A168_0,c168_0,e168,hx168_0,hl168_0,hi168_0⟩:=at_L4 HR165_3.out x7_2 p168 q168
                 cases e168
                 replace hx168_0:=(HB.out.cell (World.block_lt_of_cell? w _ hx168_0)).trans hx168_0
                 have HR168_0:=aM hi168_0
                 clear hi168_0 hl168_0
                 replace p168:=eq_true p168
                 replace q168:=eq_true q168
                 have p169:0≤(x7_2:Int):=of_decide_eq_true zS
                 have q169:x7_2<(((rd_T34 l0_0 x4_1).f3).length:Int):=of_decide_eq_true zS
                 obtain ⟨ad169,A169_0,c169_0,e169,hx169_0,hl169_0,hi169_0⟩:=at_L4 HR165_3.out x7_2 p169 q169
                 obtain rfl:ad168=ad169:=(by injection e169)
                 replace hx169_0:=(HB.out.cell (World.block_lt_of_cell? w _ hx169_0)).trans hx169_0
                 have HR169_0:=aM hi169_0
                 have HC169_0:=aM hl169_0
                 clear hi169_0 hl169_0
                 replace p169:=eq_true p169
                 replace q169:=eq_true q169
                 have ea_:=Option.some.inj (hx168_0.symm.trans hx169_0)
                 injection ea_ with ea_ en_ ec_
                 subst ea_
                 subst ec_
                 clear en_
                 have p170:0≤(x8_3:Int):=of_decide_eq_true zS
                 have q170:x8_3<((rd_L4 ((rd_T34 l0_0 x4_1).f3) x7_2).length:Int):=of_decide_eq_true zS
                 obtain ⟨ad170,A170_4,c170_4,A170_5,c170_5,e170,hx170_0,hx170_1,hx170_2,hx170_3,hx170_4,hx170_5,hx170_6,hx170_7,hl170_4,hi170_4,hl170_5,hi170_5⟩:=at_T39 HR169_0.out x8_3 p170 q170
                 cases e170
                 replace hx170_0:=(HB.out.cell (World.block_lt_of_cell? w _ hx170_0)).trans hx170_0
                 replace hx170_1:=(HB.out.cell (World.block_lt_of_cell? w _ hx170_1)).trans hx170_1
                 replace hx170_2:=(HB.out.cell (World.block_lt_of_cell? w _ hx170_2)).trans hx170_2
                 replace hx170_3:=(HB.out.cell (World.block_lt_of_cell? w _ hx170_3)).trans hx170_3
                 replace hx170_4:=(HB.out.cell (World.block_lt_of_cell? w _ hx170_4)).trans hx170_4
                 replace hx170_5:=(HB.out.cell (World.block_lt_of_cell? w _ hx170_5)).trans hx170_5
                 replace hx170_6:=(HB.out.cell (World.block_lt_of_cell? w _ hx170_6)).trans hx170_6
                 replace hx170_7:=(HB.out.cell (World.block_lt_of_cell? w _ hx170_7)).trans hx170_7
                 have HR170_4:=aM hi170_4
                 have HC170_4:=aM hl170_4
                 clear hi170_4 hl170_4
                 have HR170_5:=aM hi170_5
                 have HC170_5:=aM hl170_5
                 clear hi170_5 hl170_5
                 replace p170:=eq_true p170
                 replace q170:=eq_true q170
                 go_wp2_with (first | ((with_reducible refine gate_callee (f:=18) rfl ?_);refine goesL_ (some 61) rfl rfl Try.func18 (by kernel_rfl) rfl #[.agg #[.int .i64 ((rd_T39 (rd_L4 ((rd_T34 l0_0 x4_1).f3) x7_2) x8_3).f0),.int .i64 ((rd_T39 (rd_L4 ((rd_T34 l0_0 x4_1).f3) x7_2) x8_3).f1),.int .i64 ((rd_T39 (rd_L4 ((rd_T34 l0_0 x4_1).f3) x7_2) x8_3).f2),.int .i64 ((rd_T39 (rd_L4 ((rd_T34 l0_0 x4_1).f3) x7_2) x8_3).f3),.slice A170_4 ((rd_T39 (rd_L4 ((rd_T34 l0_0 x4_1).f3) x7_2) x8_3).f4).length c170_4,.slice A170_5 ((rd_T39 (rd_L4 ((rd_T34 l0_0 x4_1).f3) x7_2) x8_3).f5).length c170_5,.string ((rd_T39 (rd_L4 ((rd_T34 l0_0 x4_1).f3) x7_2) x8_3).f6),.int .i64 ((rd_T39 (rd_L4 ((rd_T34 l0_0 x4_1).f3) x7_2) x8_3).f7)]] rfl zA ?_;(with_reducible refine (r07_Check.calls k3 ((rd_T39 (rd_L4 ((rd_T34 l0_0 x4_1).f3) x7_2) x8_3).f0) ((rd_T39 (rd_L4 ((rd_T34 l0_0 x4_1).f3) x7_2) x8_3).f1) ((rd_T39 (rd_L4 ((rd_T34 l0_0 x4_1).f3) x7_2) x8_3).f2) ((rd_T39 (rd_L4 ((rd_T34 l0_0 x4_1).f3) x7_2) x8_3).f3) _ _ ((rd_T39 (rd_L4 ((rd_T34 l0_0 x4_1).f3) x7_2) x8_3).f4) _ _ ((rd_T39 (rd_L4 ((rd_T34 l0_0 x4_1).f3) x7_2) x8_3).f5) ((rd_T39 (rd_L4 ((rd_T34 l0_0 x4_1).f3) x7_2) x8_3).f6) ((rd_T39 (rd_L4 ((rd_T34 l0_0 x4_1).f3) x7_2) x8_3).f7) t171 _ ?side1 ?side2 ?side3 ?side4 A29.out).mono ?_);(case side1=>repeat (first | exact (Kd.C_below HR170_4.out HB.out) | (with_reducible refine Kd.C_alloc ?_ _) | (with_reducible refine Kd.C_drewN ?_ _) | (with_reducible refine Kd.C_drew ?_)));(case side2=>exact HC170_4.out);(case side3=>repeat (first | exact (Kd.C_below HR170_5.out HB.out) | (with_reducible refine Kd.C_alloc ?_ _) | (with_reducible refine Kd.C_drewN ?_ _) | (with_reducible refine Kd.C_drew ?_)));(case side4=>exact HC170_5.out);rintro e w38 ⟨rfl,hb⟩;refine ⟨_,rfl,?_⟩;have n0_:=aM (blk_below (g:=gb163) (o:=.cells #[.slice (some ad165) l0_0.length c0_0] 24 (0,0)) (zK BK163.out) hb);have n1_:=aM (blk_below (g:=gb164) (o:=.cells #[.int .i64 x165000_3,.int .i64 x165001_3] 28 (0,0)) (zK BK164.out) hb);have n2_:=aM (blk_below (g:=gb166) (o:=.cells #[.string ((rd_T34 l0_0 x4_1).f0),.slice A165_1 ((rd_T34 l0_0 x4_1).f1).length c165_1,.int .i64 ((rd_T34 l0_0 x4_1).f2),.slice (some ad168) ((rd_T34 l0_0 x4_1).f3).length c165_3,.int .i64 ((rd_T34 l0_0 x4_1).f4)] 34 (0,0)) (zK BK166.out) hb);have n3_:=aM (below_step (zE HB.out GE163.out GE164.out GE166.out) hb);clear BK163;clear BK164;clear BK166;clear HB;have BK163:=n0_;have BK164:=n1_;have BK166:=n2_;have HB:=n3_;clear n0_ n1_ n2_ n3_;(try clear hb);(try clear hb2);(try clear hk);(try clear hi);have hcz40_0:w38.cell? ⟨gb164,0,none⟩=some (.int .i64 x165000_3):=(blk_cell BK164.out 0).trans rfl;have hcz40_1:w38.cell? ⟨gb164,1,none⟩=some (.int .i64 x165001_3):=(blk_cell BK164.out 1).trans rfl;have hfz40_0:=blk_frozen BK164.out 0;have hfz40_1:=blk_frozen BK164.out 1))
                 refine bodyPost_ret (results_cell_row rfl _ _ gb164 28 #[.int .i64 t171,.int .i64 x4_1] (0,0) _ rfl (by (with_reducible repeat (first | refine blk_drewN ?_ _ | refine blk_drew ?_ | refine blk_alloc ?_ _));refine blk_put (cs:=#[.int .i64 t171,.int .i64 x165001_3]) ?_ 1 _ rfl;(with_reducible repeat (first | refine blk_drewN ?_ _ | refine blk_drew ?_ | refine blk_alloc ?_ _));refine blk_put (cs:=#[.int .i64 x165000_3,.int .i64 x165001_3]) ?_ 0 _ rfl;(with_reducible repeat (first | refine blk_drewN ?_ _ | refine blk_drew ?_ | refine blk_alloc ?_ _));exact BK164.out) Try.underlying28 rfl (by kernel_rfl)) rfl ?_
                 exact ⟨zF,zE HB.out GE163.out GE164.out GE166.out⟩
               ·rw [if_neg c28] at H
                exact absurd H (by simp)
             ·rw [if_neg c21] at H
              have c21b0:decide (x8_3<((rd_L4 ((rd_T34 l0_0 x4_1).f3) x7_2).length:Int))=false:=decide_eq_false c21
              clear c21
              have H':=aM H
              clear H
              have hcz43_3:wr.cell? ⟨gb166,3,none⟩=some (.slice A165_3 ((rd_T34 l0_0 x4_1).f3).length c165_3):=(blk_cell BK166.out 3).trans rfl
              have p168:0≤(x7_2:Int):=of_decide_eq_true zS
              have q168:x7_2<(((rd_T34 l0_0 x4_1).f3).length:Int):=of_decide_eq_true zS
              obtain ⟨ad168,A168_0,c168_0,e168,hx168_0,hl168_0,hi168_0⟩:=at_L4 HR165_3.out x7_2 p168 q168
              cases e168
              replace hx168_0:=(HB.out.cell (World.block_lt_of_cell? w _ hx168_0)).trans hx168_0
              have HR168_0:=aM hi168_0
              clear hi168_0 hl168_0
              replace p168:=eq_true p168
              replace q168:=eq_true q168
              go_wp2
              go_roundg k3
              case measure=>have:=HK1.out;have:=HK2.out;have:=HK3.out;omega
              case rel=>exact ⟨(x3_3),(wrap64 (x7_2+1)),(x165000_3),(x165001_3),(by first | rfl | (simp;done) | (simp [*];done)),(by first | rfl | (simp;done) | (simp [*];done)),H',⟨by have:=HK1.out;have:=HK2.out;have:=HK3.out;omega⟩,⟨zK BK163.out⟩,⟨zK BK164.out⟩,⟨zK BK166.out⟩,⟨zE HB.out GE163.out GE164.out GE166.out⟩⟩
            ·rw [if_neg c20] at H
             exact absurd H (by simp)
           ·rw [if_neg c19] at H
            exact absurd H (by simp)
        ·rw [if_neg c15] at H
         have c15b0:decide (x7_2<(((rd_T34 l0_0 x4_1).f3).length:Int))=false:=decide_eq_false c15
         clear c15
         have H':=aM H
         clear H
         have hcz46_3:wr.cell? ⟨gb166,3,none⟩=some (.slice A165_3 ((rd_T34 l0_0 x4_1).f3).length c165_3):=(blk_cell BK166.out 3).trans rfl
         go_wp2
         go_roundg k2
         case measure=>have:=HK1.out;have:=HK2.out;omega
         case rel=>exact ⟨(x3_2),(wrap64 (x4_1+1)),(x165000_2),(x165001_2),(by first | rfl | (simp;done) | (simp [*];done)),(by first | rfl | (simp;done) | (simp [*];done)),H',⟨by have:=HK1.out;have:=HK2.out;omega⟩,⟨zK BK163.out⟩,⟨zK BK164.out⟩,⟨zE HB.out GE163.out GE164.out GE166.out⟩⟩
     ·rw [if_neg c7] at H
      have c7b1:(t167 !=0)=true:=bne_iff_ne.mpr c7
      simp only [Option.some.injEq,Prod.mk.injEq] at H
      obtain ⟨rfl,rfl⟩:=H
      have hcz48_0:wr.cell? ⟨gb163,0,none⟩=some (.slice A0_0 l0_0.length c0_0):=(blk_cell BK163.out 0).trans rfl
      have p165:0≤(x4_1:Int):=of_decide_eq_true zS
      have q165:x4_1<(l0_0.length:Int):=of_decide_eq_true zS
      obtain ⟨ad165,A165_1,c165_1,A165_3,c165_3,e165,hx165_0,hx165_1,hx165_2,hx165_3,hx165_4,hl165_1,hi165_1,hl165_3,hi165_3⟩:=at_T34 HR0_0.out x4_1 p165 q165
      cases e165
      replace hx165_0:=(HB.out.cell (World.block_lt_of_cell? w _ hx165_0)).trans hx165_0
      replace hx165_1:=(HB.out.cell (World.block_lt_of_cell? w _ hx165_1)).trans hx165_1
      replace hx165_2:=(HB.out.cell (World.block_lt_of_cell? w _ hx165_2)).trans hx165_2
      replace hx165_3:=(HB.out.cell (World.block_lt_of_cell? w _ hx165_3)).trans hx165_3
      replace hx165_4:=(HB.out.cell (World.block_lt_of_cell? w _ hx165_4)).trans hx165_4
      have HR165_1:=aM hi165_1
      have HC165_1:=aM hl165_1
      clear hi165_1 hl165_1
      have HR165_3:=aM hi165_3
      have HC165_3:=aM hl165_3
      clear hi165_3 hl165_3
      replace p165:=eq_true p165
      replace q165:=eq_true q165
      go_wp2_with (first | ((with_reducible refine gate_dst (N:=5) rfl ?_);refine box_event ?hg (N:=5) ?hd (cs:=#[.string (⟨#[]⟩:ByteArray),.slice none 0 0,.int .i64 0,.slice none 0 0,.int .i64 0]) (t:=34) ?hr ?_;(case hd=>rfl);(case hg=>rfl);(case hr=>first | (go_simp;done) | (go_simp;rfl));intro gb166 hg w49 hbox hb;have n0_:=aM (blk_below (g:=gb163) (o:=.cells #[.slice (some ad165) l0_0.length c0_0] 24 (0,0)) (zK BK163.out) hb);have n1_:=aM (blk_below (g:=gb164) (o:=.cells #[.int .i64 x165000_1,.int .i64 x165001_1] 28 (0,0)) (zK BK164.out) hb);have n2_:=aM (below_step (zD HB.out GE163.out GE164.out) hb);have n3_:=aM (hbox);have n4_:=aM ((by rw [hg];exact (below_size (zD HB.out GE163.out GE164.out)):w.heap.size≤gb166));have n5_:=aM ((by rw [hg];exact (below_size (zD HB.out GE163.out GE164.out)):w.heap.size≤gb166));have n6_:=aM ((by rw [hg];exact Nat.ne_of_lt (blk_lt (g:=gb163) (o:=.cells #[.slice (some ad165) l0_0.length c0_0] 24 (0,0)) (zK BK163.out)):gb163≠gb166));have n7_:=aM ((by rw [hg];exact Nat.ne_of_gt (blk_lt (g:=gb163) (o:=.cells #[.slice (some ad165) l0_0.length c0_0] 24 (0,0)) (zK BK163.out)):gb166≠gb163));have n8_:=aM ((by rw [hg];exact Nat.ne_of_lt (blk_lt (g:=gb164) (o:=.cells #[.int .i64 x165000_1,.int .i64 x165001_1] 28 (0,0)) (zK BK164.out)):gb164≠gb166));have n9_:=aM ((by rw [hg];exact Nat.ne_of_gt (blk_lt (g:=gb164) (o:=.cells #[.int .i64 x165000_1,.int .i64 x165001_1] 28 (0,0)) (zK BK164.out)):gb166≠gb164));clear BK163;clear BK164;clear HB;have BK163:=n0_;have BK164:=n1_;have HB:=n2_;have BK166:=n3_;have GE166:=n5_;have NB163_166:=n6_;have NB166_163:=n7_;have NB164_166:=n8_;have NB166_164:=n9_;clear n0_ n1_ n2_ n3_ n4_ n5_ n6_ n7_ n8_ n9_;clear hb hbox hg;have hcz52_0:w49.cell? ⟨gb166,0,none⟩=some (.string (⟨#[]⟩:ByteArray)):=(blk_cell BK166.out 0).trans rfl;have hcz52_1:w49.cell? ⟨gb166,1,none⟩=some (.slice none 0 0):=(blk_cell BK166.out 1).trans rfl;have hcz52_2:w49.cell? ⟨gb166,2,none⟩=some (.int .i64 0):=(blk_cell BK166.out 2).trans rfl;have hcz52_3:w49.cell? ⟨gb166,3,none⟩=some (.slice none 0 0):=(blk_cell BK166.out 3).trans rfl;have hcz52_4:w49.cell? ⟨gb166,4,none⟩=some (.int .i64 0):=(blk_cell BK166.out 4).trans rfl;have hfz52_0:=blk_frozen BK166.out 0;have hfz52_1:=blk_frozen BK166.out 1;have hfz52_2:=blk_frozen BK166.out 2;have hfz52_3:=blk_frozen BK166.out 3;have hfz52_4:=blk_frozen BK166.out 4) | ((with_reducible refine gate_callee (f:=28) rfl ?_);refine goesL_ (some 24) rfl rfl Try.func28 (by kernel_rfl) rfl #[.agg #[.string ((rd_T34 l0_0 x4_1).f0),.slice A165_1 ((rd_T34 l0_0 x4_1).f1).length c165_1,.int .i64 ((rd_T34 l0_0 x4_1).f2),.slice A165_3 ((rd_T34 l0_0 x4_1).f3).length c165_3,.int .i64 ((rd_T34 l0_0 x4_1).f4)],.int .i64 x4_1] rfl zA ?_;(with_reducible refine (r07_head.calls k1 ((rd_T34 l0_0 x4_1).f0) _ _ ((rd_T34 l0_0 x4_1).f1) ((rd_T34 l0_0 x4_1).f2) _ _ ((rd_T34 l0_0 x4_1).f3) ((rd_T34 l0_0 x4_1).f4) x4_1 t167 _ ?side1 ?side2 ?side3 ?side4 A6.out).mono ?_);(case side1=>exact Kd.C_below HR165_1.out (zE HB.out GE163.out GE164.out GE166.out));(case side2=>exact HC165_1.out);(case side3=>exact Kd.C_below HR165_3.out (zE HB.out GE163.out GE164.out GE166.out));(case side4=>exact HC165_3.out);rintro e w53 ⟨rfl,hb⟩;refine ⟨_,rfl,?_⟩;have n0_:=aM (blk_below (g:=gb163) (o:=.cells #[.slice (some ad165) l0_0.length c0_0] 24 (0,0)) (by (with_reducible repeat (first | refine blk_drewN ?_ _ | refine blk_drew ?_ | refine blk_alloc ?_ _));refine blk_far ?_ NB163_166.out _;(with_reducible repeat (first | refine blk_drewN ?_ _ | refine blk_drew ?_ | refine blk_alloc ?_ _));refine blk_far ?_ NB163_166.out _;(with_reducible repeat (first | refine blk_drewN ?_ _ | refine blk_drew ?_ | refine blk_alloc ?_ _));refine blk_far ?_ NB163_166.out _;(with_reducible repeat (first | refine blk_drewN ?_ _ | refine blk_drew ?_ | refine blk_alloc ?_ _));refine blk_far ?_ NB163_166.out _;(with_reducible repeat (first | refine blk_drewN ?_ _ | refine blk_drew ?_ | refine blk_alloc ?_ _));refine blk_far ?_ NB163_166.out _;(with_reducible repeat (first | refine blk_drewN ?_ _ | refine blk_drew ?_ | refine blk_alloc ?_ _));exact BK163.out) hb);have n1_:=aM (blk_below (g:=gb164) (o:=.cells #[.int .i64 x165000_1,.int .i64 x165001_1] 28 (0,0)) (by (with_reducible repeat (first | refine blk_drewN ?_ _ | refine blk_drew ?_ | refine blk_alloc ?_ _));refine blk_far ?_ NB164_166.out _;(with_reducible repeat (first | refine blk_drewN ?_ _ | refine blk_drew ?_ | refine blk_alloc ?_ _));refine blk_far ?_ NB164_166.out _;(with_reducible repeat (first | refine blk_drewN ?_ _ | refine blk_drew ?_ | refine blk_alloc ?_ _));refine blk_far ?_ NB164_166.out _;(with_reducible repeat (first | refine blk_drewN ?_ _ | refine blk_drew ?_ | refine blk_alloc ?_ _));refine blk_far ?_ NB164_166.out _;(with_reducible repeat (first | refine blk_drewN ?_ _ | refine blk_drew ?_ | refine blk_alloc ?_ _));refine blk_far ?_ NB164_166.out _;(with_reducible repeat (first | refine blk_drewN ?_ _ | refine blk_drew ?_ | refine blk_alloc ?_ _));exact BK164.out) hb);have n2_:=aM (blk_below (g:=gb166) (o:=.cells #[.string ((rd_T34 l0_0 x4_1).f0),.slice A165_1 ((rd_T34 l0_0 x4_1).f1).length c165_1,.int .i64 ((rd_T34 l0_0 x4_1).f2),.slice A165_3 ((rd_T34 l0_0 x4_1).f3).length c165_3,.int .i64 ((rd_T34 l0_0 x4_1).f4)] 34 (0,0)) (by (with_reducible repeat (first | refine blk_drewN ?_ _ | refine blk_drew ?_ | refine blk_alloc ?_ _));refine blk_put (cs:=#[.string ((rd_T34 l0_0 x4_1).f0),.slice A165_1 ((rd_T34 l0_0 x4_1).f1).length c165_1,.int .i64 ((rd_T34 l0_0 x4_1).f2),.slice A165_3 ((rd_T34 l0_0 x4_1).f3).length c165_3,.int .i64 0]) ?_ 4 _ rfl;(with_reducible repeat (first | refine blk_drewN ?_ _ | refine blk_drew ?_ | refine blk_alloc ?_ _));refine blk_put (cs:=#[.string ((rd_T34 l0_0 x4_1).f0),.slice A165_1 ((rd_T34 l0_0 x4_1).f1).length c165_1,.int .i64 ((rd_T34 l0_0 x4_1).f2),.slice none 0 0,.int .i64 0]) ?_ 3 _ rfl;(with_reducible repeat (first | refine blk_drewN ?_ _ | refine blk_drew ?_ | refine blk_alloc ?_ _));refine blk_put (cs:=#[.string ((rd_T34 l0_0 x4_1).f0),.slice A165_1 ((rd_T34 l0_0 x4_1).f1).length c165_1,.int .i64 0,.slice none 0 0,.int .i64 0]) ?_ 2 _ rfl;(with_reducible repeat (first | refine blk_drewN ?_ _ | refine blk_drew ?_ | refine blk_alloc ?_ _));refine blk_put (cs:=#[.string ((rd_T34 l0_0 x4_1).f0),.slice none 0 0,.int .i64 0,.slice none 0 0,.int .i64 0]) ?_ 1 _ rfl;(with_reducible repeat (first | refine blk_drewN ?_ _ | refine blk_drew ?_ | refine blk_alloc ?_ _));refine blk_put (cs:=#[.string (⟨#[]⟩:ByteArray),.slice none 0 0,.int .i64 0,.slice none 0 0,.int .i64 0]) ?_ 0 _ rfl;(with_reducible repeat (first | refine blk_drewN ?_ _ | refine blk_drew ?_ | refine blk_alloc ?_ _));exact BK166.out) hb);have n3_:=aM (below_step (zE HB.out GE163.out GE164.out GE166.out) hb);clear BK163;clear BK164;clear BK166;clear HB;have BK163:=n0_;have BK164:=n1_;have BK166:=n2_;have HB:=n3_;clear n0_ n1_ n2_ n3_;(try clear hb);(try clear hb2);(try clear hk);(try clear hi);have hcz54_0:w53.cell? ⟨gb164,0,none⟩=some (.int .i64 x165000_1):=(blk_cell BK164.out 0).trans rfl;have hcz54_1:w53.cell? ⟨gb164,1,none⟩=some (.int .i64 x165001_1):=(blk_cell BK164.out 1).trans rfl;have hfz54_0:=blk_frozen BK164.out 0;have hfz54_1:=blk_frozen BK164.out 1))
      refine bodyPost_ret (results_cell_row rfl _ _ gb164 28 #[.int .i64 t167,.int .i64 x4_1] (0,0) _ rfl (by (with_reducible repeat (first | refine blk_drewN ?_ _ | refine blk_drew ?_ | refine blk_alloc ?_ _));refine blk_put (cs:=#[.int .i64 t167,.int .i64 x165001_1]) ?_ 1 _ rfl;(with_reducible repeat (first | refine blk_drewN ?_ _ | refine blk_drew ?_ | refine blk_alloc ?_ _));refine blk_put (cs:=#[.int .i64 x165000_1,.int .i64 x165001_1]) ?_ 0 _ rfl;(with_reducible repeat (first | refine blk_drewN ?_ _ | refine blk_drew ?_ | refine blk_alloc ?_ _));exact BK164.out) Try.underlying28 rfl (by kernel_rfl)) rfl ?_
      exact ⟨zF,zE HB.out GE163.out GE164.out GE166.out⟩
    ·rw [if_neg c5] at H
     exact absurd H (by simp)
   ·rw [if_neg c4] at H
    have c4b0:decide (x4_1<(l0_0.length:Int))=false:=decide_eq_false c4
    clear c4
    simp only [Option.some.injEq,Prod.mk.injEq] at H
    obtain ⟨rfl,rfl⟩:=H
    have hcz56_0:wr.cell? ⟨gb163,0,none⟩=some (.slice A0_0 l0_0.length c0_0):=(blk_cell BK163.out 0).trans rfl
    have hcz57_0:wr.cell? ⟨gb164,0,none⟩=some (.int .i64 x165000_1):=(blk_cell BK164.out 0).trans rfl
    have hcz57_1:wr.cell? ⟨gb164,1,none⟩=some (.int .i64 x165001_1):=(blk_cell BK164.out 1).trans rfl
    have hfz57_0:=blk_frozen BK164.out 0
    have hfz57_1:=blk_frozen BK164.out 1
    go_wp2
    refine bodyPost_ret (results_cell_row rfl _ _ gb164 28 #[.int .i64 0,.int .i64 0] (0,0) _ rfl (by (with_reducible repeat (first | refine blk_drewN ?_ _ | refine blk_drew ?_ | refine blk_alloc ?_ _));refine blk_put (cs:=#[.int .i64 0,.int .i64 x165001_1]) ?_ 1 _ rfl;(with_reducible repeat (first | refine blk_drewN ?_ _ | refine blk_drew ?_ | refine blk_alloc ?_ _));refine blk_put (cs:=#[.int .i64 x165000_1,.int .i64 x165001_1]) ?_ 0 _ rfl;(with_reducible repeat (first | refine blk_drewN ?_ _ | refine blk_drew ?_ | refine blk_alloc ?_ _));exact BK164.out) Try.underlying28 rfl (by kernel_rfl)) rfl ?_
    exact ⟨zF,zD HB.out GE163.out GE164.out⟩
end Go.Proofs.Ytkjdblbgmomieaa.PSh
end
