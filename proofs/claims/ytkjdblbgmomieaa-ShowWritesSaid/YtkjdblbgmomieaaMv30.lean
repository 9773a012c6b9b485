import Derived.Test.YtkjdblbgmomieaaMv2
import Derived.Test.YtkjdblbgmomieaaMv3
section
namespace Go.Proofs.Ytkjdblbgmomieaa.PSh
set_option maxHeartbeats 8000000
set_option maxRecDepth 100000
open Go.RowKit Go.Proofs.YtkjdblbgmomieaaW.PrintWords Go.Proofs.YtkjdblbgmomieaaW.PrintLast Go.Proofs.YtkjdblbgmomieaaW.PrintMore Go.Proofs.Ytkjdblbgmomieaa.Zip
attribute [local go_sem] max2_int min2_int max_two min_two max_three min_three max_four min_four   -- for this text's walks alone
set_option linter.unusedVariables false
set_option linter.unusedSimpArgs false
mutual
def r05_Size.l0:Nat→Int→Int→Int→List (S34)→Option (Int)
 | 0,_,_,_,_=>none
 | k+1,x1,x5,x6,x102000=>if x6<(x102000.length:Int) then (r05_Size.j1 k x1 x5 x6 (decide (x5≤x1)) x102000) else (r05_Size.j1 k x1 x5 x6 false x102000)
def r05_Size.j1:Nat→Int→Int→Int→Bool→List (S34)→Option (Int)
 | 0,_,_,_,_,_=>none
 | k+1,x1,x5,x6,x23,x102000=>if x23=true then (if 0≤x6 then (if x6<(x102000.length:Int) then (r05_Size.l1 k x1 (wrap64 ((wrap64 ((wrap64 (x5+(((rd_T34 x102000 x6).f3).length:Int)))+(((rd_T34 x102000 x6).f1).length:Int)))+(wrap64 ((((rd_T34 x102000 x6).f0).size:Int) / 30)))) x6 0 x102000 ((rd_T34 x102000 x6).f0) ((rd_T34 x102000 x6).f1) ((rd_T34 x102000 x6).f2) ((rd_T34 x102000 x6).f3) ((rd_T34 x102000 x6).f4)) else (none)) else (none)) else (some x5)
def r05_Size.l1:Nat→Int→Int→Int→Int→List (S34)→ByteArray→List Int→Int→List (List (S39))→Int→Option (Int)
 | 0,_,_,_,_,_,_,_,_,_,_=>none
 | k+1,x1,x5,x6,x8,x102000,x104000,x104001,x104002,x104003,x104004=>if x8<(x104003.length:Int) then (r05_Size.j3 k x1 x5 x6 x8 (decide (x5≤x1)) x102000 x104000 x104001 x104002 x104003 x104004) else (r05_Size.j3 k x1 x5 x6 x8 false x102000 x104000 x104001 x104002 x104003 x104004)
def r05_Size.j3:Nat→Int→Int→Int→Int→Bool→List (S34)→ByteArray→List Int→Int→List (List (S39))→Int→Option (Int)
 | 0,_,_,_,_,_,_,_,_,_,_,_=>none
 | k+1,x1,x5,x6,x8,x54,x102000,x104000,x104001,x104002,x104003,x104004=>if x54=true then (r05_Size.l2 k x1 x5 x6 x8 0 x102000 x104000 x104001 x104002 x104003 x104004) else (r05_Size.l0 k x1 x5 (wrap64 (x6+1)) x102000)
def r05_Size.l2:Nat→Int→Int→Int→Int→Int→List (S34)→ByteArray→List Int→Int→List (List (S39))→Int→Option (Int)
 | 0,_,_,_,_,_,_,_,_,_,_,_=>none
 | k+1,x1,x5,x6,x8,x9,x102000,x104000,x104001,x104002,x104003,x104004=>if 0≤x8 then (if x8<(x104003.length:Int) then (if x9<((rd_L4 x104003 x8).length:Int) then (if x5≤x1 then (if 0≤x9 then (r05_Size.l2 k x1 (wrap64 ((wrap64 ((wrap64 ((wrap64 (x5+1))+(wrap64 ((((rd_T39 (rd_L4 x104003 x8) x9).f4).length:Int) / 4))))+(wrap64 ((((rd_T39 (rd_L4 x104003 x8) x9).f5).length:Int) / 4))))+(wrap64 ((((rd_T39 (rd_L4 x104003 x8) x9).f6).size:Int) / 30)))) x6 x8 (wrap64 (x9+1)) x102000 x104000 x104001 x104002 x104003 x104004) else (none)) else (r05_Size.l1 k x1 x5 x6 (wrap64 (x8+1)) x102000 x104000 x104001 x104002 x104003 x104004)) else (r05_Size.l1 k x1 x5 x6 (wrap64 (x8+1)) x102000 x104000 x104001 x104002 x104003 x104004)) else (none)) else (none)
end
def r05_Size.f (k:Nat) (l0_0:List (S34)) (a1:Int):Option (Int):=r05_Size.l0 k a1 (l0_0.length:Int) 0 l0_0
theorem r05_Size.calls (k:Nat) (A0_0:Option Addr) (c0_0:Nat) (l0_0:List (S34)) (a1:Int) (r:Int) (w:World) (hr0_0:Kd.C k34 w A0_0 l0_0.length l0_0) (hc0_0:l0_0.length≤c0_0) (h:r05_Size.f k l0_0 a1=some r):
  Calls Try.prog 27 #[.agg #[.slice A0_0 l0_0.length c0_0],.int .i64 a1] w fun e w'=>e=.returned (.int .i64 r)∧Below w.heap.size w w':=by
 have HR0_0:=aM hr0_0
 clear hr0_0 hc0_0
 have HB:=aM (Below.refl w.heap.size w)
 have H:(r05_Size.l0 k a1 (l0_0.length:Int) 0 l0_0)=some r:=h
 clear h
 have H':=aM H
 clear H
 go_enter Try.func27,Try.ntmps27
 go_wp2_with (first | ((with_reducible refine gate_dst (N:=2) rfl ?_);refine box_event ?hg (N:=2) ?hd (cs:=#[.slice A0_0 l0_0.length c0_0]) (t:=24) ?hr ?_;(case hd=>rfl);(case hg=>rfl);(case hr=>first | (go_simp;done) | (go_simp;rfl));intro gb101 hg w3 hbox hb;have n0_:=aM (below_step (zB HB.out) hb);have n1_:=aM (hbox);have n2_:=aM ((by rw [hg];exact (below_size (zB HB.out)):w.heap.size≤gb101));have n3_:=aM ((by rw [hg];exact (below_size (zB HB.out)):w.heap.size≤gb101));clear HB;have HB:=n0_;have BK101:=n1_;have GE101:=n3_;clear n0_ n1_ n2_ n3_;clear hb hbox hg;have hcz4_0:w3.cell? ⟨gb101,0,none⟩=some (.slice A0_0 l0_0.length c0_0):=(blk_cell BK101.out 0).trans rfl))
 go_loopg [5,6] k (fun kq v5 v6 w'=>∃ (x5_1:Int) (x6_1:Int),v5=.int .i64 x5_1∧v6=.int .i64 x6_1∧Aside0 (r05_Size.l0 kq a1 x5_1 x6_1 l0_0=some r)∧Aside0 (kq≤k)∧Aside0 (w'.heap[gb101]?=some (.cells #[(.slice A0_0 l0_0.length c0_0)] 24 (0,0)))∧Aside0 (Below w.heap.size w w'))
 case atStart=>exact ⟨((l0_0.length:Int)),(0),(by first | rfl | (simp;done) | (simp [*];done)),(by first | rfl | (simp;done) | (simp [*];done)),H',⟨Nat.le_refl _⟩,⟨zK BK101.out⟩,⟨zC HB.out GE101.out⟩⟩
 case round=>
  clear H' hcz4_0
  obtain ⟨x5_1,x6_1,rfl,rfl,HA,HK1,BK101,HB⟩:=hrel
  cases gk with
  | zero=>exact absurd HA.out (by simp [r05_Size.l0])
  | succ k1=>
   have H:=HA.out
   clear HA
   simp only [r05_Size.l0] at H
   have HC5:=aM H
   clear H
   go_upto_region 3 with (fail)
   go_cut [23] (fun v23 wc=>∃ (kq:Nat) (x23_4:Bool),v23=.bool x23_4∧Aside0 (r05_Size.j1 kq a1 x5_1 x6_1 x23_4 l0_0=some r)∧Aside0 (kq≤k1)∧Aside0 (wc.heap[gb101]?=some (.cells #[(.slice A0_0 l0_0.length c0_0)] 24 (0,0)))∧Aside0 (Below w.heap.size w wc))
   case first=>
    have H:=HC5.out
    clear HC5
    by_cases c6:x6_1<(l0_0.length:Int)
    ·rw [if_pos c6] at H
     have c6b0:decide (x6_1<(l0_0.length:Int))=true:=decide_eq_true c6
     clear c6
     (first | rw [c6b0] | (simp only [i64_w,i32_w];rw [c6b0]) | skip)
     have H':=aM H
     clear H
     have hcz7_0:wr.cell? ⟨gb101,0,none⟩=some (.slice A0_0 l0_0.length c0_0):=(blk_cell BK101.out 0).trans rfl
     go_wp2
     go_meet
     case rel=>exact ⟨_,(decide (x5_1≤a1)),(by first | rfl | (simp;done) | (simp [*];done)),H',⟨by have:=HK1.out;first | omega | exact Nat.le_refl _⟩,⟨zK BK101.out⟩,⟨zC HB.out GE101.out⟩⟩
    ·rw [if_neg c6] at H
     have c6b0:decide (x6_1<(l0_0.length:Int))=false:=decide_eq_false c6
     clear c6
     (first | rw [c6b0] | (simp only [i64_w,i32_w];rw [c6b0]) | skip)
     have H':=aM H
     clear H
     have hcz8_0:wr.cell? ⟨gb101,0,none⟩=some (.slice A0_0 l0_0.length c0_0):=(blk_cell BK101.out 0).trans rfl
     go_wp2
     go_meet
     case rel=>exact ⟨_,(false),(by first | rfl | (simp;done) | (simp [*];done)),H',⟨by have:=HK1.out;first | omega | exact Nat.le_refl _⟩,⟨zK BK101.out⟩,⟨zC HB.out GE101.out⟩⟩
   case rest=>
    clear HC5
    obtain ⟨kq,x23_4,rfl,HA,HJ4,BK101,HB⟩:=hcut
    cases kq with
    | zero=>exact absurd HA.out (by simp [r05_Size.j1])
    | succ kj4=>
     have H:=HA.out
     clear HA
     simp only [r05_Size.j1] at H
     by_cases c9:x23_4=true
     ·subst c9
      have H1:(if 0≤x6_1 then (if x6_1<(l0_0.length:Int) then (r05_Size.l1 kj4 a1 (wrap64 ((wrap64 ((wrap64 (x5_1+(((rd_T34 l0_0 x6_1).f3).length:Int)))+(((rd_T34 l0_0 x6_1).f1).length:Int)))+(wrap64 ((((rd_T34 l0_0 x6_1).f0).size:Int) / 30)))) x6_1 0 l0_0 ((rd_T34 l0_0 x6_1).f0) ((rd_T34 l0_0 x6_1).f1) ((rd_T34 l0_0 x6_1).f2) ((rd_T34 l0_0 x6_1).f3) ((rd_T34 l0_0 x6_1).f4)) else (none)) else (none))=some r:=by rw [if_pos rfl] at H;exact H
      clear H
      have H:=H1
      clear H1
      by_cases c10:0≤x6_1
      ·rw [if_pos c10] at H
       have c10b0:decide (0≤x6_1)=true:=decide_eq_true c10
       clear c10
       by_cases c11:x6_1<(l0_0.length:Int)
       ·rw [if_pos c11] at H
        have c11b0:decide (x6_1<(l0_0.length:Int))=true:=decide_eq_true c11
        clear c11
        have H':=aM H
        clear H
        have hcz12_0:wc.cell? ⟨gb101,0,none⟩=some (.slice A0_0 l0_0.length c0_0):=(blk_cell BK101.out 0).trans rfl
        have p102:0≤(x6_1:Int):=of_decide_eq_true zS
        have q102:x6_1<(l0_0.length:Int):=of_decide_eq_true zS
        obtain ⟨ad102,A102_1,c102_1,A102_3,c102_3,e102,hx102_0,hx102_1,hx102_2,hx102_3,hx102_4,hl102_1,hi102_1,hl102_3,hi102_3⟩:=at_T34 HR0_0.out x6_1 p102 q102
        cases e102
        replace hx102_0:=(HB.out.cell (World.block_lt_of_cell? w _ hx102_0)).trans hx102_0
        replace hx102_1:=(HB.out.cell (World.block_lt_of_cell? w _ hx102_1)).trans hx102_1
        replace hx102_2:=(HB.out.cell (World.block_lt_of_cell? w _ hx102_2)).trans hx102_2
        replace hx102_3:=(HB.out.cell (World.block_lt_of_cell? w _ hx102_3)).trans hx102_3
        replace hx102_4:=(HB.out.cell (World.block_lt_of_cell? w _ hx102_4)).trans hx102_4
        clear hi102_1 hl102_1
        have HR102_3:=aM hi102_3
        clear hi102_3 hl102_3
        replace p102:=eq_true p102
        replace q102:=eq_true q102
        go_wp2_with (first | ((with_reducible refine gate_dst (N:=7) rfl ?_);refine box_event ?hg (N:=7) ?hd (cs:=#[.string (⟨#[]⟩:ByteArray),.slice none 0 0,.int .i64 0,.slice none 0 0,.int .i64 0]) (t:=34) ?hr ?_;(case hd=>rfl);(case hg=>rfl);(case hr=>first | (go_simp;done) | (go_simp;rfl));intro gb103 hg w13 hbox hb;have n0_:=aM (blk_below (g:=gb101) (o:=.cells #[.slice (some ad102) l0_0.length c0_0] 24 (0,0)) (zK BK101.out) hb);have n1_:=aM (below_step (zC HB.out GE101.out) hb);have n2_:=aM (hbox);have n3_:=aM ((by rw [hg];exact (below_size (zC HB.out GE101.out)):w.heap.size≤gb103));have n4_:=aM ((by rw [hg];exact (below_size (zC HB.out GE101.out)):w.heap.size≤gb103));have n5_:=aM ((by rw [hg];exact Nat.ne_of_lt (blk_lt (g:=gb101) (o:=.cells #[.slice (some ad102) l0_0.length c0_0] 24 (0,0)) (zK BK101.out)):gb101≠gb103));have n6_:=aM ((by rw [hg];exact Nat.ne_of_gt (blk_lt (g:=gb101) (o:=.cells #[.slice (some ad102) l0_0.length c0_0] 24 (0,0)) (zK BK101.out)):gb103≠gb101));clear BK101;clear HB;have BK101:=n0_;have HB:=n1_;have BK103:=n2_;have GE103:=n4_;have NB101_103:=n5_;have NB103_101:=n6_;clear n0_ n1_ n2_ n3_ n4_ n5_ n6_;clear hb hbox hg;have hcz15_0:w13.cell? ⟨gb103,0,none⟩=some (.string (⟨#[]⟩:ByteArray)):=(blk_cell BK103.out 0).trans rfl;have hcz15_1:w13.cell? ⟨gb103,1,none⟩=some (.slice none 0 0):=(blk_cell BK103.out 1).trans rfl;have hcz15_2:w13.cell? ⟨gb103,2,none⟩=some (.int .i64 0):=(blk_cell BK103.out 2).trans rfl;have hcz15_3:w13.cell? ⟨gb103,3,none⟩=some (.slice none 0 0):=(blk_cell BK103.out 3).trans rfl;have hcz15_4:w13.cell? ⟨gb103,4,none⟩=some (.int .i64 0):=(blk_cell BK103.out 4).trans rfl;have hfz15_0:=blk_frozen BK103.out 0;have hfz15_1:=blk_frozen BK103.out 1;have hfz15_2:=blk_frozen BK103.out 2;have hfz15_3:=blk_frozen BK103.out 3;have hfz15_4:=blk_frozen BK103.out 4))
        go_loopg [5,8] kj4 (fun kq v5 v8 w'=>∃ (x5_3:Int) (x8_3:Int),v5=.int .i64 x5_3∧v8=.int .i64 x8_3∧Aside0 (r05_Size.l1 kq a1 x5_3 x6_1 x8_3 l0_0 ((rd_T34 l0_0 x6_1).f0) ((rd_T34 l0_0 x6_1).f1) ((rd_T34 l0_0 x6_1).f2) ((rd_T34 l0_0 x6_1).f3) ((rd_T34 l0_0 x6_1).f4)=some r)∧Aside0 (kq≤kj4)∧Aside0 (w'.heap[gb101]?=some (.cells #[(.slice (some ad102) l0_0.length c0_0)] 24 (0,0)))∧Aside0 (w'.heap[gb103]?=some (.cells #[.string ((rd_T34 l0_0 x6_1).f0),(.slice A102_1 ((rd_T34 l0_0 x6_1).f1).length c102_1),.int .i64 ((rd_T34 l0_0 x6_1).f2),(.slice A102_3 ((rd_T34 l0_0 x6_1).f3).length c102_3),.int .i64 ((rd_T34 l0_0 x6_1).f4)] 34 (0,0)))∧Aside0 (Below w.heap.size w w'))
        case atStart=>exact ⟨(wrap64 ((wrap64 ((wrap64 (x5_1+(((rd_T34 l0_0 x6_1).f3).length:Int)))+(((rd_T34 l0_0 x6_1).f1).length:Int)))+(wrap64 ((((rd_T34 l0_0 x6_1).f0).size:Int) / 30)))),(0),(by first | rfl | (simp;done) | (simp [*];done)),(by first | rfl | (simp;done) | (simp [*];done)),H',⟨Nat.le_refl _⟩,⟨by (with_reducible repeat (first | refine blk_drewN ?_ _ | refine blk_drew ?_ | refine blk_alloc ?_ _));refine blk_far ?_ NB101_103.out _;(with_reducible repeat (first | refine blk_drewN ?_ _ | refine blk_drew ?_ | refine blk_alloc ?_ _));refine blk_far ?_ NB101_103.out _;(with_reducible repeat (first | refine blk_drewN ?_ _ | refine blk_drew ?_ | refine blk_alloc ?_ _));refine blk_far ?_ NB101_103.out _;(with_reducible repeat (first | refine blk_drewN ?_ _ | refine blk_drew ?_ | refine blk_alloc ?_ _));refine blk_far ?_ NB101_103.out _;(with_reducible repeat (first | refine blk_drewN ?_ _ | refine blk_drew ?_ | refine blk_alloc ?_ _));refine blk_far ?_ NB101_103.out _;(with_reducible repeat (first | refine blk_drewN ?_ _ | refine blk_drew ?_ | refine blk_alloc ?_ _));exact BK101.out⟩,⟨by (with_reducible repeat (first | refine blk_drewN ?_ _ | refine blk_drew ?_ | refine blk_alloc ?_ _));refine blk_put (cs:=#[.string ((rd_T34 l0_0 x6_1).f0),.slice A102_1 ((rd_T34 l0_0 x6_1).f1).length c102_1,.int .i64 ((rd_T34 l0_0 x6_1).f2),.slice A102_3 ((rd_T34 l0_0 x6_1).f3).length c102_3,.int .i64 0]) ?_ 4 _ rfl;(with_reducible repeat (first | refine blk_drewN ?_ _ | refine blk_drew ?_ | refine blk_alloc ?_ _));refine blk_put (cs:=#[.string ((rd_T34 l0_0 x6_1).f0),.slice A102_1 ((rd_T34 l0_0 x6_1).f1).length c102_1,.int .i64 ((rd_T34 l0_0 x6_1).f2),.slice none 0 0,.int .i64 0]) ?_ 3 _ rfl;(with_reducible repeat (first | refine blk_drewN ?_ _ | refine blk_drew ?_ | refine blk_alloc ?_ _));refine blk_put (cs:=#[.string ((rd_T34 l0_0 x6_1).f0),.slice A102_1 ((rd_T34 l0_0 x6_1).f1).length c102_1,.int .i64 0,.slice none 0 0,.int .i64 0]) ?_ 2 _ rfl;(with_reducible repeat (first | refine blk_drewN ?_ _ | refine blk_drew ?_ | refine blk_alloc ?_ _));refine blk_put (cs:=#[.string ((rd_T34 l0_0 x6_1).f0),.slice none 0 0,.int .i64 0,.slice none 0 0,.int .i64 0]) ?_ 1 _ rfl;(with_reducible repeat (first | refine blk_drewN ?_ _ | refine blk_drew ?_ | refine blk_alloc ?_ _));refine blk_put (cs:=#[.string (⟨#[]⟩:ByteArray),.slice none 0 0,.int .i64 0,.slice none 0 0,.int .i64 0]) ?_ 0 _ rfl;(with_reducible repeat (first | refine blk_drewN ?_ _ | refine blk_drew ?_ | refine blk_alloc ?_ _));exact BK103.out⟩,⟨zD HB.out GE101.out GE103.out⟩⟩
        case round=>
         clear H' c10b0 c11b0 hcz12_0 hcz15_0 hcz15_1 hcz15_2 hcz15_3 hcz15_4 hfz15_0 hfz15_1 hfz15_2 hfz15_3 hfz15_4 hx102_0 hx102_1 hx102_2 hx102_3 hx102_4 p102 q102
         obtain ⟨x5_3,x8_3,rfl,rfl,HA,HK3,BK101,BK103,HB⟩:=hrel
         cases gk with
         | zero=>exact absurd HA.out (by simp [r05_Size.l1])
         | succ k3=>
          have H:=HA.out
          clear HA
          simp only [r05_Size.l1] at H
          have HC16:=aM H
          clear H
          go_upto_region 8 with (fail)
          go_cut [54] (fun v54 wc=>∃ (kq:Nat) (x54_15:Bool),v54=.bool x54_15∧Aside0 (r05_Size.j3 kq a1 x5_3 x6_1 x8_3 x54_15 l0_0 ((rd_T34 l0_0 x6_1).f0) ((rd_T34 l0_0 x6_1).f1) ((rd_T34 l0_0 x6_1).f2) ((rd_T34 l0_0 x6_1).f3) ((rd_T34 l0_0 x6_1).f4)=some r)∧Aside0 (kq≤k3)∧Aside0 (wc.heap[gb101]?=some (.cells #[(.slice (some ad102) l0_0.length c0_0)] 24 (0,0)))∧Aside0 (wc.heap[gb103]?=some (.cells #[.string ((rd_T34 l0_0 x6_1).f0),(.slice A102_1 ((rd_T34 l0_0 x6_1).f1).length c102_1),.int .i64 ((rd_T34 l0_0 x6_1).f2),(.slice A102_3 ((rd_T34 l0_0 x6_1).f3).length c102_3),.int .i64 ((rd_T34 l0_0 x6_1).f4)] 34 (0,0)))∧Aside0 (Below w.heap.size w wc))
          case first=>
           have H:=HC16.out
           clear HC16
           by_cases c17:x8_3<(((rd_T34 l0_0 x6_1).f3).length:Int)
           ·rw [if_pos c17] at H
            have c17b0:decide (x8_3<(((rd_T34 l0_0 x6_1).f3).length:Int))=true:=decide_eq_true c17
            clear c17
            (first | rw [c17b0] | (simp only [i64_w,i32_w];rw [c17b0]) | skip)
            have H':=aM H
            clear H
            have hcz19_3:wr.cell? ⟨gb103,3,none⟩=some (.slice A102_3 ((rd_T34 l0_0 x6_1).f3).length c102_3):=(blk_cell BK103.out 3).trans rfl
            go_wp2
            go_meet
            case rel=>exact ⟨_,(decide (x5_3≤a1)),(by first | rfl | (simp;done) | (simp [*];done)),H',⟨by have:=HK1.out;have:=HJ4.out;have:=HK3.out;first | omega | exact Nat.le_refl _⟩,⟨zK BK101.out⟩,⟨zK BK103.out⟩,⟨zD HB.out GE101.out GE103.out⟩⟩
           ·rw [if_neg c17] at H
            have c17b0:decide (x8_3<(((rd_T34 l0_0 x6_1).f3).length:Int))=false:=decide_eq_false c17
            clear c17
            (first | rw [c17b0] | (simp only [i64_w,i32_w];rw [c17b0]) | skip)
            have H':=aM H
            clear H
            have hcz21_3:wr.cell? ⟨gb103,3,none⟩=some (.slice A102_3 ((rd_T34 l0_0 x6_1).f3).length c102_3):=(blk_cell BK103.out 3).trans rfl
            go_wp2
            go_meet
            case rel=>exact ⟨_,(false),(by first | rfl | (simp;done) | (simp [*];done)),H',⟨by have:=HK1.out;have:=HJ4.out;have:=HK3.out;first | omega | exact Nat.le_refl _⟩,⟨zK BK101.out⟩,⟨zK BK103.out⟩,⟨zD HB.out GE101.out GE103.out⟩⟩
          case rest=>
           clear HC16
           obtain ⟨kq,x54_15,rfl,HA,HJ15,BK101,BK103,HB⟩:=hcut
           cases kq with
           | zero=>exact absurd HA.out (by simp [r05_Size.j3])
           | succ kj15=>
            have H:=HA.out
            clear HA
            simp only [r05_Size.j3] at H
            by_cases c22:x54_15=true
            ·subst c22
             have H1:(r05_Size.l2 kj15 a1 x5_3 x6_1 x8_3 0 l0_0 ((rd_T34 l0_0 x6_1).f0) ((rd_T34 l0_0 x6_1).f1) ((rd_T34 l0_0 x6_1).f2) ((rd_T34 l0_0 x6_1).f3) ((rd_T34 l0_0 x6_1).f4))=some r:=by rw [if_pos rfl] at H;exact H
             clear H
             have H:=H1
             clear H1
             have H':=aM H
             clear H
             go_wp2
             go_loopg [5,9] kj15 (fun kq v5 v9 w'=>∃ (x5_5:Int) (x9_5:Int),v5=.int .i64 x5_5∧v9=.int .i64 x9_5∧Aside0 (r05_Size.l2 kq a1 x5_5 x6_1 x8_3 x9_5 l0_0 ((rd_T34 l0_0 x6_1).f0) ((rd_T34 l0_0 x6_1).f1) ((rd_T34 l0_0 x6_1).f2) ((rd_T34 l0_0 x6_1).f3) ((rd_T34 l0_0 x6_1).f4)=some r)∧Aside0 (kq≤kj15)∧Aside0 (w'.heap[gb101]?=some (.cells #[(.slice (some ad102) l0_0.length c0_0)] 24 (0,0)))∧Aside0 (w'.heap[gb103]?=some (.cells #[.string ((rd_T34 l0_0 x6_1).f0),(.slice A102_1 ((rd_T34 l0_0 x6_1).f1).length c102_1),.int .i64 ((rd_T34 l0_0 x6_1).f2),(.slice A102_3 ((rd_T34 l0_0 x6_1).f3).length c102_3),.int .i64 ((rd_T34 l0_0 x6_1).f4)] 34 (0,0)))∧Aside0 (Below w.heap.size w w'))
             case atStart=>exact ⟨(x5_3),(0),(by first | rfl | (simp;done) | (simp [*];done)),(by first | rfl | (simp;done) | (simp [*];done)),H',⟨Nat.le_refl _⟩,⟨zK BK101.out⟩,⟨zK BK103.out⟩,⟨zD HB.out GE101.out GE103.out⟩⟩
             case round=>
              clear H'
              obtain ⟨x5_5,x9_5,rfl,rfl,HA,HK5,BK101,BK103,HB⟩:=hrel
              cases gk with
              | zero=>exact absurd HA.out (by simp [r05_Size.l2])
              | succ k5=>
               have H:=HA.out
               clear HA
               simp only [r05_Size.l2] at H
               by_cases c23:0≤x8_3
               ·rw [if_pos c23] at H
                have c23b0:decide (0≤x8_3)=true:=decide_eq_true c23
                clear c23
                by_cases c24:x8_3<(((rd_T34 l0_0 x6_1).f3).length:Int)
                ·rw [if_pos c24] at H
                 have c24b0:decide (x8_3<(((rd_T34 l0_0 x6_1).f3).length:Int))=true:=decide_eq_true c24
                 clear c24
                 by_cases c25:x9_5<((rd_L4 ((rd_T34 l0_0 x6_1).f3) x8_3).length:Int)
                 ·rw [if_pos c25] at H
                  have c25b0:decide (x9_5<((rd_L4 ((rd_T34 l0_0 x6_1).f3) x8_3).length:Int))=true:=decide_eq_true c25
                  clear c25
                  by_cases c26:x5_5≤a1
                  ·rw [if_pos c26] at H
                   have c26b0:decide (x5_5≤a1)=true:=decide_eq_true c26
                   clear c26
                   by_cases c27:0≤x9_5
                   ·rw [if_pos c27] at H
                    have c27b0:decide (0≤x9_5)=true:=decide_eq_true c27
                    clear c27
                    have H':=aM H
                    clear H
                    have hcz29_3:wr.cell? ⟨gb103,3,none⟩=some (.slice A102_3 ((rd_T34 l0_0 x6_1).f3).length c102_3):=(blk_cell BK103.out 3).trans rfl
                    have p104:0≤(x8_3:Int):=of_decide_eq_true zS
                    have q104:x8_3<(((rd_T34 l0_0 x6_1).f3).length:Int):=of_decide_eq_true zS
                    obtain ⟨ad104,A104_0,c104_0,e104,hx104_0,hl104_0,hi104_0⟩:=at_L4 HR102_3.out x8_3 p104 q104
                    cases e104
                    replace hx104_0:=(HB.out.cell (World.block_lt_of_cell? w _ hx104_0)).trans hx104_0
                    have HR104_0:=aM hi104_0
                    clear hi104_0 hl104_0
                    replace p104:=eq_true p104
                    replace q104:=eq_true q104
                    have p105:0≤(x8_3:Int):=of_decide_eq_true zS
                    have q105:x8_3<(((rd_T34 l0_0 x6_1).f3).length:Int):=of_decide_eq_true zS
                    obtain ⟨ad105,A105_0,c105_0,e105,hx105_0,hl105_0,hi105_0⟩:=at_L4 HR102_3.out x8_3 p105 q105
                    obtain rfl:ad104=ad105:=(by injection e105)
                    replace hx105_0:=(HB.out.cell (World.block_lt_of_cell? w _ hx105_0)).trans hx105_0
                    have HR105_0:=aM hi105_0
                    have HC105_0:=aM hl105_0
                    clear hi105_0 hl105_0
                    replace p105:=eq_true p105
                    replace q105:=eq_true q105
                    have ea_:=Option.some.inj (hx104_0.symm.trans hx105_0)
                    injection ea_ with ea_ en_ ec_
                    subst ea_
                    subst ec_
                    clear en_
                    have p106:0≤(x9_5:Int):=of_decide_eq_true zS
                    have q106:x9_5<((rd_L4 ((rd_T34 l0_0 x6_1).f3) x8_3).length:Int):=of_decide_eq_true zS
                    obtain ⟨ad106,A106_4,c106_4,A106_5,c106_5,e106,hx106_0,hx106_1,hx106_2,hx106_3,hx106_4,hx106_5,hx106_6,hx106_7,hl106_4,hi106_4,hl106_5,hi106_5⟩:=at_T39 HR105_0.out x9_5 p106 q106
                    cases e106
                    replace hx106_0:=(HB.out.cell (World.block_lt_of_cell? w _ hx106_0)).trans hx106_0
                    replace hx106_1:=(HB.out.cell (World.block_lt_of_cell? w _ hx106_1)).trans hx106_1
                    replace hx106_2:=(HB.out.cell (World.block_lt_of_cell? w _ hx106_2)).trans hx106_2
                    replace hx106_3:=(HB.out.cell (World.block_lt_of_cell? w _ hx106_3)).trans hx106_3
                    replace hx106_4:=(HB.out.cell (World.block_lt_of_cell? w _ hx106_4)).trans hx106_4
                    replace hx106_5:=(HB.out.cell (World.block_lt_of_cell? w _ hx106_5)).trans hx106_5
                    replace hx106_6:=(HB.out.cell (World.block_lt_of_cell? w _ hx106_6)).trans hx106_6
                    replace hx106_7:=(HB.out.cell (World.block_lt_of_cell? w _ hx106_7)).trans hx106_7
                    clear hi106_4 hl106_4 hi106_5 hl106_5
                    replace p106:=eq_true p106
                    replace q106:=eq_true q106
                    go_wp2_with (first | ((with_reducible refine gate_dst (N:=10) rfl ?_);refine box_event ?hg (N:=10) ?hd (cs:=#[.int .i64 0,.int .i64 0,.int .i64 0,.int .i64 0,.slice none 0 0,.slice none 0 0,.string (⟨#[]⟩:ByteArray),.int .i64 0]) (t:=39) ?hr ?_;(case hd=>rfl);(case hg=>rfl);(case hr=>first | (go_simp;done) | (go_simp;rfl));intro gb107 hg w30 hbox hb;have n0_:=aM (blk_below (g:=gb101) (o:=.cells #[.slice (some ad102) l0_0.length c0_0] 24 (0,0)) (zK BK101.out) hb);have n1_:=aM (blk_below (g:=gb103) (o:=.cells #[.string ((rd_T34 l0_0 x6_1).f0),.slice A102_1 ((rd_T34 l0_0 x6_1).f1).length c102_1,.int .i64 ((rd_T34 l0_0 x6_1).f2),.slice (some ad104) ((rd_T34 l0_0 x6_1).f3).length c102_3,.int .i64 ((rd_T34 l0_0 x6_1).f4)] 34 (0,0)) (zK BK103.out) hb);have n2_:=aM (below_step (zD HB.out GE101.out GE103.out) hb);have n3_:=aM (hbox);have n4_:=aM ((by rw [hg];exact (below_size (zD HB.out GE101.out GE103.out)):w.heap.size≤gb107));have n5_:=aM ((by rw [hg];exact (below_size (zD HB.out GE101.out GE103.out)):w.heap.size≤gb107));have n6_:=aM ((by rw [hg];exact Nat.ne_of_lt (blk_lt (g:=gb101) (o:=.cells #[.slice (some ad102) l0_0.length c0_0] 24 (0,0)) (zK BK101.out)):gb101≠gb107));have n7_:=aM ((by rw [hg];exact Nat.ne_of_gt (blk_lt (g:=gb101) (o:=.cells #[.slice (some ad102) l0_0.length c0_0] 24 (0,0)) (zK BK101.out)):gb107≠gb101));have n8_:=aM ((by rw [hg];exact Nat.ne_of_lt (blk_lt (g:=gb103) (o:=.cells #[.string ((rd_T34 l0_0 x6_1).f0),.slice A102_1 ((rd_T34 l0_0 x6_1).f1).length c102_1,.int .i64 ((rd_T34 l0_0 x6_1).f2),.slice (some ad104) ((rd_T34 l0_0 x6_1).f3).length c102_3,.int .i64 ((rd_T34 l0_0 x6_1).f4)] 34 (0,0)) (zK BK103.out)):gb103≠gb107));have n9_:=aM ((by rw [hg];exact Nat.ne_of_gt (blk_lt (g:=gb103) (o:=.cells #[.string ((rd_T34 l0_0 x6_1).f0),.slice A102_1 ((rd_T34 l0_0 x6_1).f1).length c102_1,.int .i64 ((rd_T34 l0_0 x6_1).f2),.slice (some ad104) ((rd_T34 l0_0 x6_1).f3).length c102_3,.int .i64 ((rd_T34 l0_0 x6_1).f4)] 34 (0,0)) (zK BK103.out)):gb107≠gb103));clear BK101;clear BK103;clear HB;have BK101:=n0_;have BK103:=n1_;have HB:=n2_;have BK107:=n3_;have GE107:=n5_;have NB101_107:=n6_;have NB107_101:=n7_;have NB103_107:=n8_;have NB107_103:=n9_;clear n0_ n1_ n2_ n3_ n4_ n5_ n6_ n7_ n8_ n9_;clear hb hbox hg;have hcz33_0:w30.cell? ⟨gb107,0,none⟩=some (.int .i64 0):=(blk_cell BK107.out 0).trans rfl;have hcz33_1:w30.cell? ⟨gb107,1,none⟩=some (.int .i64 0):=(blk_cell BK107.out 1).trans rfl;have hcz33_2:w30.cell? ⟨gb107,2,none⟩=some (.int .i64 0):=(blk_cell BK107.out 2).trans rfl;have hcz33_3:w30.cell? ⟨gb107,3,none⟩=some (.int .i64 0):=(blk_cell BK107.out 3).trans rfl;have hcz33_4:w30.cell? ⟨gb107,4,none⟩=some (.slice none 0 0):=(blk_cell BK107.out 4).trans rfl;have hcz33_5:w30.cell? ⟨gb107,5,none⟩=some (.slice none 0 0):=(blk_cell BK107.out 5).trans rfl;have hcz33_6:w30.cell? ⟨gb107,6,none⟩=some (.string (⟨#[]⟩:ByteArray)):=(blk_cell BK107.out 6).trans rfl;have hcz33_7:w30.cell? ⟨gb107,7,none⟩=some (.int .i64 0):=(blk_cell BK107.out 7).trans rfl;have hfz33_0:=blk_frozen BK107.out 0;have hfz33_1:=blk_frozen BK107.out 1;have hfz33_2:=blk_frozen BK107.out 2;have hfz33_3:=blk_frozen BK107.out 3;have hfz33_4:=blk_frozen BK107.out 4;have hfz33_5:=blk_frozen BK107.out 5;have hfz33_6:=blk_frozen BK107.out 6;have hfz33_7:=blk_frozen BK107.out 7))
                    go_roundg k5
                    case measure=>have:=HK1.out;have:=HJ4.out;have:=HK3.out;have:=HJ15.out;have:=HK5.out;omega
                    case rel=>exact ⟨(wrap64 ((wrap64 ((wrap64 ((wrap64 (x5_5+1))+(wrap64 ((((rd_T39 (rd_L4 ((rd_T34 l0_0 x6_1).f3) x8_3) x9_5).f4).length:Int) / 4))))+(wrap64 ((((rd_T39 (rd_L4 ((rd_T34 l0_0 x6_1).f3) x8_3) x9_5).f5).length:Int) / 4))))+(wrap64 ((((rd_T39 (rd_L4 ((rd_T34 l0_0 x6_1).f3) x8_3) x9_5).f6).size:Int) / 30)))),(wrap64 (x9_5+1)),(by first | rfl | (simp;done) | (simp [*];done)),(by first | rfl | (simp;done) | (simp [*];done)),H',⟨by have:=HK1.out;have:=HJ4.out;have:=HK3.out;have:=HJ15.out;have:=HK5.out;omega⟩,⟨by (with_reducible repeat (first | refine blk_drewN ?_ _ | refine blk_drew ?_ | refine blk_alloc ?_ _));refine blk_far ?_ NB101_107.out _;(with_reducible repeat (first | refine blk_drewN ?_ _ | refine blk_drew ?_ | refine blk_alloc ?_ _));refine blk_far ?_ NB101_107.out _;(with_reducible repeat (first | refine blk_drewN ?_ _ | refine blk_drew ?_ | refine blk_alloc ?_ _));refine blk_far ?_ NB101_107.out _;(with_reducible repeat (first | refine blk_drewN ?_ _ | refine blk_drew ?_ | refine blk_alloc ?_ _));refine blk_far ?_ NB101_107.out _;(with_reducible repeat (first | refine blk_drewN ?_ _ | refine blk_drew ?_ | refine blk_alloc ?_ _));refine blk_far ?_ NB101_107.out _;(with_reducible repeat (first | refine blk_drewN ?_ _ | refine blk_drew ?_ | refine blk_alloc ?_ _));refine blk_far ?_ NB101_107.out _;(with_reducible repeat (first | refine blk_drewN ?_ _ | refine blk_drew ?_ | refine blk_alloc ?_ _));refine blk_far ?_ NB101_107.out _;(with_reducible repeat (first | refine blk_drewN ?_ _ | refine blk_drew ?_ | refine blk_alloc ?_ _));refine blk_far ?_ NB101_107.out _;(with_reducible repeat (first | refine blk_drewN ?_ _ | refine blk_drew ?_ | refine blk_alloc ?_ _));exact BK101.out⟩,⟨by (with_reducible repeat (first | refine blk_drewN ?_ _ | refine blk_drew ?_ | refine blk_alloc ?_ _));refine blk_far ?_ NB103_107.out _;(with_reducible repeat (first | refine blk_drewN ?_ _ | refine blk_drew ?_ | refine blk_alloc ?_ _));refine blk_far ?_ NB103_107.out _;(with_reducible repeat (first | refine blk_drewN ?_ _ | refine blk_drew ?_ | refine blk_alloc ?_ _));refine blk_far ?_ NB103_107.out _;(with_reducible repeat (first | refine blk_drewN ?_ _ | refine blk_drew ?_ | refine blk_alloc ?_ _));refine blk_far ?_ NB103_107.out _;(with_reducible repeat (first | refine blk_drewN ?_ _ | refine blk_drew ?_ | refine blk_alloc ?_ _));refine blk_far ?_ NB103_107.out _;(with_reducible repeat (first | refine blk_drewN ?_ _ | refine blk_drew ?_ | refine blk_alloc ?_ _));refine blk_far ?_ NB103_107.out _;(with_reducible repeat (first | refine blk_drewN ?_ _ | refine blk_drew ?_ | refine blk_alloc ?_ _));refine blk_far ?_ NB103_107.out _;(with_reducible repeat (first | refine blk_drewN ?_ _ | refine blk_drew ?_ | refine blk_alloc ?_ _));refine blk_far ?_ NB103_107.out _;(with_reducible repeat (first | refine blk_drewN ?_ _ | refine blk_drew ?_ | refine blk_alloc ?_ _));exact BK103.out⟩,⟨zE HB.out GE101.out GE103.out GE107.out⟩⟩
                   ·rw [if_neg c27] at H
                    exact absurd H (by simp)
                  ·rw [if_neg c26] at H
                   have c26b0:decide (x5_5≤a1)=false:=decide_eq_false c26
                   clear c26
                   have H':=aM H
                   clear H
                   have hcz35_3:wr.cell? ⟨gb103,3,none⟩=some (.slice A102_3 ((rd_T34 l0_0 x6_1).f3).length c102_3):=(blk_cell BK103.out 3).trans rfl
                   have p104:0≤(x8_3:Int):=of_decide_eq_true zS
                   have q104:x8_3<(((rd_T34 l0_0 x6_1).f3).length:Int):=of_decide_eq_true zS
                   obtain ⟨ad104,A104_0,c104_0,e104,hx104_0,hl104_0,hi104_0⟩:=at_L4 HR102_3.out x8_3 p104 q104
                   cases e104
                   replace hx104_0:=(HB.out.cell (World.block_lt_of_cell? w _ hx104_0)).trans hx104_0
                   have HR104_0:=aM hi104_0
                   clear hi104_0 hl104_0
                   replace p104:=eq_true p104
                   replace q104:=eq_true q104
                   go_wp2
                   go_roundg k5
                   case measure=>have:=HK1.out;have:=HJ4.out;have:=HK3.out;have:=HJ15.out;have:=HK5.out;omega
                   case rel=>exact ⟨(x5_5),(wrap64 (x8_3+1)),(by first | rfl | (simp;done) | (simp [*];done)),(by first | rfl | (simp;done) | (simp [*];done)),H',⟨by have:=HK1.out;have:=HJ4.out;have:=HK3.out;have:=HJ15.out;have:=HK5.out;omega⟩,⟨zK BK101.out⟩,⟨zK BK103.out⟩,⟨zD HB.out GE101.out GE103.out⟩⟩
                 ·rw [if_neg c25] at H
                  have c25b0:decide (x9_5<((rd_L4 ((rd_T34 l0_0 x6_1).f3) x8_3).length:Int))=false:=decide_eq_false c25
                  clear c25
                  have H':=aM H
                  clear H
                  have hcz37_3:wr.cell? ⟨gb103,3,none⟩=some (.slice A102_3 ((rd_T34 l0_0 x6_1).f3).length c102_3):=(blk_cell BK103.out 3).trans rfl
                  have p104:0≤(x8_3:Int):=of_decide_eq_true zS
                  have q104:x8_3<(((rd_T34 l0_0 x6_1).f3).length:Int):=of_decide_eq_true zS
                  obtain ⟨ad104,A104_0,c104_0,e104,hx104_0,hl104_0,hi104_0⟩:=at_L4 HR102_3.out x8_3 p104 q104
                  cases e104
                  replace hx104_0:=(HB.out.cell (World.block_lt_of_cell? w _ hx104_0)).trans hx104_0
                  have HR104_0:=aM hi104_0
                  clear hi104_0 hl104_0
                  replace p104:=eq_true p104
                  replace q104:=eq_true q104
                  go_wp2
                  go_roundg k5
                  case measure=>have:=HK1.out;have:=HJ4.out;have:=HK3.out;have:=HJ15.out;have:=HK5.out;omega
                  case rel=>exact ⟨(x5_5),(wrap64 (x8_3+1)),(by first | rfl | (simp;done) | (simp [*];done)),(by first | rfl | (simp;done) | (simp [*];done)),H',⟨by have:=HK1.out;have:=HJ4.out;have:=HK3.out;have:=HJ15.out;have:=HK5.out;omega⟩,⟨zK BK101.out⟩,⟨zK BK103.out⟩,⟨zD HB.out GE101.out GE103.out⟩⟩
                ·rw [if_neg c24] at H
                 exact absurd H (by simp)
               ·rw [if_neg c23] at H
                exact absurd H (by simp)
            ·replace c22:=Bool.eq_false_iff.mpr c22
             subst c22
             have H1:(r05_Size.l0 kj15 a1 x5_3 (wrap64 (x6_1+1)) l0_0)=some r:=by rw [if_neg (show ¬ (false=true) by decide)] at H;exact H
             clear H
             have H:=H1
             clear H1
             have H':=aM H
             clear H
             go_wp2
             go_roundg kj15
             case measure=>have:=HK1.out;have:=HJ4.out;have:=HK3.out;have:=HJ15.out;omega
             case rel=>exact ⟨(x5_3),(wrap64 (x6_1+1)),(by first | rfl | (simp;done) | (simp [*];done)),(by first | rfl | (simp;done) | (simp [*];done)),H',⟨by have:=HK1.out;have:=HJ4.out;have:=HK3.out;have:=HJ15.out;omega⟩,⟨zK BK101.out⟩,⟨zD HB.out GE101.out GE103.out⟩⟩
       ·rw [if_neg c11] at H
        exact absurd H (by simp)
      ·rw [if_neg c10] at H
       exact absurd H (by simp)
     ·replace c9:=Bool.eq_false_iff.mpr c9
      subst c9
      have H1:(some x5_1)=some r:=by rw [if_neg (show ¬ (false=true) by decide)] at H;exact H
      clear H
      have H:=H1
      clear H1
      obtain rfl:=Option.some.inj H
      go_wp2
      go_ret
      exact ⟨zF,zC HB.out GE101.out⟩
def l07_light.f (k:Nat) (l0_0:List (S34)):Option (Bool):=(r05_Size.f k l0_0 150).bind fun t109=>(some (decide (t109≤150)))
theorem l07_light.calls (k:Nat) (A0_0:Option Addr) (c0_0:Nat) (l0_0:List (S34)) (r:Bool) (w:World) (hr0_0:Kd.C k34 w A0_0 l0_0.length l0_0) (hc0_0:l0_0.length≤c0_0) (h:l07_light.f k l0_0=some r):
  Calls Try.prog 8 #[.agg #[.slice A0_0 l0_0.length c0_0]] w fun e w'=>e=.returned (.bool r)∧Below w.heap.size w w':=by
 have HR0_0:=aM hr0_0
 have HC0_0:=aM hc0_0
 clear hr0_0 hc0_0
 have HB:=aM (Below.refl w.heap.size w)
 have H:((r05_Size.f k l0_0 150).bind fun t109=>(some (decide (t109≤150))))=some r:=h
 clear h
 replace H:=Option.bind_eq_some_iff.mp H
 obtain ⟨t109,A20,H⟩:=H
 have A2:=aM A20
 clear A20
 obtain rfl:=Option.some.inj H
 go_enter Try.func8,Try.ntmps8
 go_wp2_with (first | ((with_reducible refine gate_dst (N:=1) rfl ?_);refine box_event ?hg (N:=1) ?hd (cs:=#[.slice A0_0 l0_0.length c0_0]) (t:=24) ?hr ?_;(case hd=>rfl);(case hg=>rfl);(case hr=>first | (go_simp;done) | (go_simp;rfl));intro gb108 hg w3 hbox hb;have n0_:=aM (below_step (zB HB.out) hb);have n1_:=aM (hbox);have n2_:=aM ((by rw [hg];exact (below_size (zB HB.out)):w.heap.size≤gb108));have n3_:=aM ((by rw [hg];exact (below_size (zB HB.out)):w.heap.size≤gb108));clear HB;have HB:=n0_;have BK108:=n1_;have GE108:=n3_;clear n0_ n1_ n2_ n3_;clear hb hbox hg;have hcz4_0:w3.cell? ⟨gb108,0,none⟩=some (.slice A0_0 l0_0.length c0_0):=(blk_cell BK108.out 0).trans rfl) | ((with_reducible refine gate_callee (f:=27) rfl ?_);refine goesL_ (some 4) rfl rfl Try.func27 (by kernel_rfl) rfl #[.agg #[.slice A0_0 l0_0.length c0_0],.int .i64 150] rfl zA ?_;(with_reducible refine (r05_Size.calls k _ _ l0_0 150 t109 _ ?side1 ?side2 A2.out).mono ?_);(case side1=>repeat (first | exact (Kd.C_below HR0_0.out HB.out) | (with_reducible refine Kd.C_alloc ?_ _) | (with_reducible refine Kd.C_drewN ?_ _) | (with_reducible refine Kd.C_drew ?_)));(case side2=>exact HC0_0.out);rintro e w5 ⟨rfl,hb⟩;refine ⟨_,rfl,?_⟩;have n0_:=aM (blk_below (g:=gb108) (o:=.cells #[.slice A0_0 l0_0.length c0_0] 24 (0,0)) (zK BK108.out) hb);have n1_:=aM (below_step (zC HB.out GE108.out) hb);clear BK108;clear HB;have BK108:=n0_;have HB:=n1_;clear n0_ n1_;(try clear hb);(try clear hb2);(try clear hk);(try clear hi)))
 go_ret
 exact ⟨zF,zC HB.out GE108.out⟩
end Go.Proofs.Ytkjdblbgmomieaa.PSh
end
