import Derived.Test.YtkjdblbgmomieaaMv2
import Derived.Test.YtkjdblbgmomieaaMv6
import Derived.Test.YtkjdblbgmomieaaMv13
import Derived.Test.YtkjdblbgmomieaaMv14
import Derived.Test.YtkjdblbgmomieaaMv3
section
namespace Go.Proofs.Ytkjdblbgmomieaa.PSh
set_option maxHeartbeats 8000000
set_option maxRecDepth 100000
open Go.RowKit Go.Proofs.YtkjdblbgmomieaaW.PrintWords Go.Proofs.YtkjdblbgmomieaaW.PrintLast Go.Proofs.YtkjdblbgmomieaaW.PrintMore Go.Proofs.Ytkjdblbgmomieaa.Zip
attribute [local go_sem] max2_int min2_int max_two min_two max_three min_three max_four min_four   -- for this text's walks alone
set_option linter.unusedVariables false
set_option linter.unusedSimpArgs false
mutual
def r07_Check.j0:Nat→Bool→Int→Int→Int→Int→List Int→List Int→ByteArray→Int→Option (Int)
 | 0,_,_,_,_,_,_,_,_,_=>none
 | k+1,x24,x146000,x146001,x146002,x146003,x146004,x146005,x146006,x146007=>if x24=true then (some 2) else ((r05_Makes.f k x146000 x146001 x146002 x146003 x146004 x146005 x146006 x146007).bind fun t147=>(if t147=0 then (r07_Check.j1 k (x146001 !=(-1)) x146000 x146001 x146002 x146003 x146004 x146005 x146006 x146007) else (if x146001<0 then (r07_Check.j1 k true x146000 x146001 x146002 x146003 x146004 x146005 x146006 x146007) else (if x146001>1048576 then (r07_Check.j1 k true x146000 x146001 x146002 x146003 x146004 x146005 x146006 x146007) else (r07_Check.j1 k false x146000 x146001 x146002 x146003 x146004 x146005 x146006 x146007)))))
def r07_Check.j1:Nat→Bool→Int→Int→Int→Int→List Int→List Int→ByteArray→Int→Option (Int)
 | 0,_,_,_,_,_,_,_,_,_=>none
 | k+1,x47,x146000,x146001,x146002,x146003,x146004,x146005,x146006,x146007=>if x47=true then (some 8) else ((r07_counts.f k x146000 x146001 x146002 x146003 x146004 x146005 x146006 x146007).bind fun t148=>(if t148=true then ((r07_most.f k x146000).bind fun t149=>(if t149<0 then (if x146002=0 then (if t149≥0 then (if x146002>t149 then (r07_Check.j2 k true x146000 x146001 x146002 x146003 x146004 x146005 x146006 x146007) else (if x146002<0 then (r07_Check.j2 k (x146000 !=1) x146000 x146001 x146002 x146003 x146004 x146005 x146006 x146007) else (r07_Check.j2 k false x146000 x146001 x146002 x146003 x146004 x146005 x146006 x146007))) else (r07_Check.j2 k false x146000 x146001 x146002 x146003 x146004 x146005 x146006 x146007)) else (r07_Check.j2 k true x146000 x146001 x146002 x146003 x146004 x146005 x146006 x146007)) else (if t149≥0 then (if x146002>t149 then (r07_Check.j2 k true x146000 x146001 x146002 x146003 x146004 x146005 x146006 x146007) else (if x146002<0 then (r07_Check.j2 k (x146000 !=1) x146000 x146001 x146002 x146003 x146004 x146005 x146006 x146007) else (r07_Check.j2 k false x146000 x146001 x146002 x146003 x146004 x146005 x146006 x146007))) else (r07_Check.j2 k false x146000 x146001 x146002 x146003 x146004 x146005 x146006 x146007)))) else (some 13)))
def r07_Check.j2:Nat→Bool→Int→Int→Int→Int→List Int→List Int→ByteArray→Int→Option (Int)
 | 0,_,_,_,_,_,_,_,_,_=>none
 | k+1,x80,x146000,x146001,x146002,x146003,x146004,x146005,x146006,x146007=>if x80=true then (some 18) else (r07_Check.l0 k 0 x146000 x146001 x146002 x146003 x146004 x146005 x146006 x146007)
def r07_Check.l0:Nat→Int→Int→Int→Int→Int→List Int→List Int→ByteArray→Int→Option (Int)
 | 0,_,_,_,_,_,_,_,_,_=>none
 | k+1,x5,x146000,x146001,x146002,x146003,x146004,x146005,x146006,x146007=>if x5<(x146004.length:Int) then (if 0≤x5 then (if (rd x146004 x5)<0 then (some 8) else (if (rd x146004 x5)>1048576 then (some 8) else (r07_Check.l0 k (wrap64 (x5+1)) x146000 x146001 x146002 x146003 x146004 x146005 x146006 x146007))) else (none)) else (r07_Check.l1 k 0 x146000 x146001 x146002 x146003 x146004 x146005 x146006 x146007)
def r07_Check.l1:Nat→Int→Int→Int→Int→Int→List Int→List Int→ByteArray→Int→Option (Int)
 | 0,_,_,_,_,_,_,_,_,_=>none
 | k+1,x6,x146000,x146001,x146002,x146003,x146004,x146005,x146006,x146007=>if x6<(x146005.length:Int) then (if 0≤x6 then (if (rd x146005 x6)<0 then (some 7) else (if (rd x146005 x6)>255 then (some 7) else (r07_Check.l1 k (wrap64 (x6+1)) x146000 x146001 x146002 x146003 x146004 x146005 x146006 x146007))) else (none)) else (if x146000=10 then ((r03_Parse.f k x146006).bind fun bt154=>(some bt154.2.2)) else (if x146000=21 then ((r02_Name.f k x146006).bind fun t158=>(if t158=true then (some 0) else (some 4))) else (if x146006.toList=([]:List UInt8) then (some 0) else (some 4))))
end
def r07_Check.f (k:Nat) (a0_0:Int) (a0_1:Int) (a0_2:Int) (a0_3:Int) (l0_4:List Int) (l0_5:List Int) (a0_6:ByteArray) (a0_7:Int):Option (Int):=if a0_0<1 then (r07_Check.j0 k true a0_0 a0_1 a0_2 a0_3 l0_4 l0_5 a0_6 a0_7) else (if a0_0>29 then (r07_Check.j0 k true a0_0 a0_1 a0_2 a0_3 l0_4 l0_5 a0_6 a0_7) else ((r05_May.f a0_0 a0_3).bind fun t146=>(r07_Check.j0 k (!t146) a0_0 a0_1 a0_2 a0_3 l0_4 l0_5 a0_6 a0_7)))
theorem r07_Check.calls (k:Nat) (a0_0:Int) (a0_1:Int) (a0_2:Int) (a0_3:Int) (A0_4:Option Addr) (c0_4:Nat) (l0_4:List Int) (A0_5:Option Addr) (c0_5:Nat) (l0_5:List Int) (a0_6:ByteArray) (a0_7:Int) (r:Int) (w:World) (hr0_4:Kd.C (Kd.int .i64) w A0_4 l0_4.length l0_4) (hc0_4:l0_4.length≤c0_4) (hr0_5:Kd.C (Kd.int .i64) w A0_5 l0_5.length l0_5) (hc0_5:l0_5.length≤c0_5) (h:r07_Check.f k a0_0 a0_1 a0_2 a0_3 l0_4 l0_5 a0_6 a0_7=some r):
  Calls Try.prog 18 #[.agg #[.int .i64 a0_0,.int .i64 a0_1,.int .i64 a0_2,.int .i64 a0_3,.slice A0_4 l0_4.length c0_4,.slice A0_5 l0_5.length c0_5,.string a0_6,.int .i64 a0_7]] w fun e w'=>e=.returned (.int .i64 r)∧Below w.heap.size w w':=by
 have HR0_4:=aM hr0_4
 have HC0_4:=aM hc0_4
 clear hr0_4 hc0_4
 have HR0_5:=aM hr0_5
 have HC0_5:=aM hc0_5
 clear hr0_5 hc0_5
 have HB:=aM (Below.refl w.heap.size w)
 have H:(if a0_0<1 then (r07_Check.j0 k true a0_0 a0_1 a0_2 a0_3 l0_4 l0_5 a0_6 a0_7) else (if a0_0>29 then (r07_Check.j0 k true a0_0 a0_1 a0_2 a0_3 l0_4 l0_5 a0_6 a0_7) else ((r05_May.f a0_0 a0_3).bind fun t146=>(r07_Check.j0 k (!t146) a0_0 a0_1 a0_2 a0_3 l0_4 l0_5 a0_6 a0_7))))=some r:=h
 clear h
 have HC2:=aM H
 clear H
 go_enter Try.func18,Try.ntmps18
 go_upto_region 1 with (first | ((with_reducible refine gate_dst (N:=1) rfl ?_);refine box_event ?hg (N:=1) ?hd (cs:=#[.int .i64 a0_0,.int .i64 a0_1,.int .i64 a0_2,.int .i64 a0_3,.slice A0_4 l0_4.length c0_4,.slice A0_5 l0_5.length c0_5,.string a0_6,.int .i64 a0_7]) (t:=39) ?hr ?_;(case hd=>rfl);(case hg=>rfl);(case hr=>first | (go_simp;done) | (go_simp;rfl));intro gb145 hg w3 hbox hb;have n0_:=aM (below_step (zB HB.out) hb);have n1_:=aM (hbox);have n2_:=aM ((by rw [hg];exact (below_size (zB HB.out)):w.heap.size≤gb145));have n3_:=aM ((by rw [hg];exact (below_size (zB HB.out)):w.heap.size≤gb145));clear HB;have HB:=n0_;have BK145:=n1_;have GE145:=n3_;clear n0_ n1_ n2_ n3_;clear hb hbox hg))
 (try simp only [Act.put,qA,qB,qC])
 go_cut [24] (fun v24 wc=>∃ (kq:Nat) (x24_1:Bool),v24=.bool x24_1∧Aside0 (r07_Check.j0 kq x24_1 a0_0 a0_1 a0_2 a0_3 l0_4 l0_5 a0_6 a0_7=some r)∧Aside0 (kq≤k)∧Aside0 (wc.heap[gb145]?=some (.cells #[.int .i64 a0_0,.int .i64 a0_1,.int .i64 a0_2,.int .i64 a0_3,(.slice A0_4 l0_4.length c0_4),(.slice A0_5 l0_5.length c0_5),.string a0_6,.int .i64 a0_7] 39 (0,0)))∧Aside0 (Below w.heap.size w wc))
 case first=>
  have H:=HC2.out
  clear HC2
  by_cases c4:a0_0<1
  ·rw [if_pos c4] at H
   have c4b0:decide (a0_0<1)=true:=decide_eq_true c4
   clear c4
   (first | rw [c4b0] | (simp only [i64_w,i32_w];rw [c4b0]) | skip)
   have H':=aM H
   clear H
   have hcz5_0:w3.cell? ⟨gb145,0,none⟩=some (.int .i64 a0_0):=(blk_cell BK145.out 0).trans rfl
   go_wp2
   go_meet
   case rel=>exact ⟨_,(true),(by first | rfl | (simp;done) | (simp [*];done)),H',⟨by first | omega | exact Nat.le_refl _⟩,⟨zK BK145.out⟩,⟨zC HB.out GE145.out⟩⟩
  ·rw [if_neg c4] at H
   have c4b0:decide (a0_0<1)=false:=decide_eq_false c4
   clear c4
   (first | rw [c4b0] | (simp only [i64_w,i32_w];rw [c4b0]) | skip)
   by_cases c6:a0_0>29
   ·rw [if_pos c6] at H
    have c6b0:decide (29<a0_0)=true:=decide_eq_true c6
    clear c6
    have H':=aM H
    clear H
    have hcz7_0:w3.cell? ⟨gb145,0,none⟩=some (.int .i64 a0_0):=(blk_cell BK145.out 0).trans rfl
    go_wp2
    go_meet
    case rel=>exact ⟨_,(true),(by first | rfl | (simp;done) | (simp [*];done)),H',⟨by first | omega | exact Nat.le_refl _⟩,⟨zK BK145.out⟩,⟨zC HB.out GE145.out⟩⟩
   ·rw [if_neg c6] at H
    have c6b0:decide (29<a0_0)=false:=decide_eq_false c6
    clear c6
    replace H:=Option.bind_eq_some_iff.mp H
    obtain ⟨t146,A80,H⟩:=H
    have A8:=aM A80
    clear A80
    have H':=aM H
    clear H
    have hcz9_0:w3.cell? ⟨gb145,0,none⟩=some (.int .i64 a0_0):=(blk_cell BK145.out 0).trans rfl
    have hcz9_3:w3.cell? ⟨gb145,3,none⟩=some (.int .i64 a0_3):=(blk_cell BK145.out 3).trans rfl
    go_wp2_with (first | (go_at_call 50;(with_reducible refine (r05_May.calls a0_0 a0_3 t146 _ A8.out).mono ?_);rintro e w' ⟨rfl,⟨nd,rfl⟩⟩))
    go_meet
    case rel=>exact ⟨_,(!t146),(by first | rfl | (simp;done) | (simp [*];done)),H',⟨by first | omega | exact Nat.le_refl _⟩,⟨zK BK145.out⟩,⟨zC HB.out GE145.out⟩⟩
 case rest=>
  clear HC2
  obtain ⟨kq,x24_1,rfl,HA,HJ1,BK145,HB⟩:=hcut
  cases kq with
  | zero=>exact absurd HA.out (by simp [r07_Check.j0])
  | succ kj1=>
   have H:=HA.out
   clear HA
   simp only [r07_Check.j0] at H
   by_cases c10:x24_1=true
   ·subst c10
    have H1:(some 2)=some r:=by rw [if_pos rfl] at H;exact H
    clear H
    have H:=H1
    clear H1
    obtain rfl:=Option.some.inj H
    go_wp2
    go_ret
    exact ⟨zF,zC HB.out GE145.out⟩
   ·replace c10:=Bool.eq_false_iff.mpr c10
    subst c10
    have H1:((r05_Makes.f kj1 a0_0 a0_1 a0_2 a0_3 l0_4 l0_5 a0_6 a0_7).bind fun t147=>(if t147=0 then (r07_Check.j1 kj1 (a0_1 !=(-1)) a0_0 a0_1 a0_2 a0_3 l0_4 l0_5 a0_6 a0_7) else (if a0_1<0 then (r07_Check.j1 kj1 true a0_0 a0_1 a0_2 a0_3 l0_4 l0_5 a0_6 a0_7) else (if a0_1>1048576 then (r07_Check.j1 kj1 true a0_0 a0_1 a0_2 a0_3 l0_4 l0_5 a0_6 a0_7) else (r07_Check.j1 kj1 false a0_0 a0_1 a0_2 a0_3 l0_4 l0_5 a0_6 a0_7)))))=some r:=by rw [if_neg (show ¬ (false=true) by decide)] at H;exact H
    clear H
    have H:=H1
    clear H1
    replace H:=Option.bind_eq_some_iff.mp H
    obtain ⟨t147,A110,H⟩:=H
    have A11:=aM A110
    clear A110
    have HC12:=aM H
    clear H
    have hcz13_0:wc.cell? ⟨gb145,0,none⟩=some (.int .i64 a0_0):=(blk_cell BK145.out 0).trans rfl
    have hcz13_1:wc.cell? ⟨gb145,1,none⟩=some (.int .i64 a0_1):=(blk_cell BK145.out 1).trans rfl
    have hcz13_2:wc.cell? ⟨gb145,2,none⟩=some (.int .i64 a0_2):=(blk_cell BK145.out 2).trans rfl
    have hcz13_3:wc.cell? ⟨gb145,3,none⟩=some (.int .i64 a0_3):=(blk_cell BK145.out 3).trans rfl
    have hcz13_4:wc.cell? ⟨gb145,4,none⟩=some (.slice A0_4 l0_4.length c0_4):=(blk_cell BK145.out 4).trans rfl
    have hcz13_5:wc.cell? ⟨gb145,5,none⟩=some (.slice A0_5 l0_5.length c0_5):=(blk_cell BK145.out 5).trans rfl
    have hcz13_6:wc.cell? ⟨gb145,6,none⟩=some (.string a0_6):=(blk_cell BK145.out 6).trans rfl
    have hcz13_7:wc.cell? ⟨gb145,7,none⟩=some (.int .i64 a0_7):=(blk_cell BK145.out 7).trans rfl
    go_upto_region 4 with (first | ((with_reducible refine gate_callee (f:=25) rfl ?_);refine goesL_ (some 26) rfl rfl Try.func25 (by kernel_rfl) rfl #[.agg #[.int .i64 a0_0,.int .i64 a0_1,.int .i64 a0_2,.int .i64 a0_3,.slice A0_4 l0_4.length c0_4,.slice A0_5 l0_5.length c0_5,.string a0_6,.int .i64 a0_7]] rfl zA ?_;(with_reducible refine (r05_Makes.calls kj1 a0_0 a0_1 a0_2 a0_3 _ _ l0_4 _ _ l0_5 a0_6 a0_7 t147 _ ?side1 ?side2 ?side3 ?side4 A11.out).mono ?_);(case side1=>repeat (first | exact (Kd.C_below HR0_4.out HB.out) | (with_reducible refine Kd.C_alloc ?_ _) | (with_reducible refine Kd.C_drewN ?_ _) | (with_reducible refine Kd.C_drew ?_)));(case side2=>exact HC0_4.out);(case side3=>repeat (first | exact (Kd.C_below HR0_5.out HB.out) | (with_reducible refine Kd.C_alloc ?_ _) | (with_reducible refine Kd.C_drewN ?_ _) | (with_reducible refine Kd.C_drew ?_)));(case side4=>exact HC0_5.out);rintro e w14 ⟨rfl,hb⟩;refine ⟨_,rfl,?_⟩;have n0_:=aM (blk_below (g:=gb145) (o:=.cells #[.int .i64 a0_0,.int .i64 a0_1,.int .i64 a0_2,.int .i64 a0_3,.slice A0_4 l0_4.length c0_4,.slice A0_5 l0_5.length c0_5,.string a0_6,.int .i64 a0_7] 39 (0,0)) (zK BK145.out) hb);have n1_:=aM (below_step (zC HB.out GE145.out) hb);clear BK145;clear HB;have BK145:=n0_;have HB:=n1_;clear n0_ n1_;(try clear hb);(try clear hb2);(try clear hk);(try clear hi)))
    (try simp only [Act.put,qA,qB,qC])
    go_cut [47] (fun v47 wc=>∃ (kq:Nat) (x47_11:Bool),v47=.bool x47_11∧Aside0 (r07_Check.j1 kq x47_11 a0_0 a0_1 a0_2 a0_3 l0_4 l0_5 a0_6 a0_7=some r)∧Aside0 (kq≤kj1)∧Aside0 (wc.heap[gb145]?=some (.cells #[.int .i64 a0_0,.int .i64 a0_1,.int .i64 a0_2,.int .i64 a0_3,(.slice A0_4 l0_4.length c0_4),(.slice A0_5 l0_5.length c0_5),.string a0_6,.int .i64 a0_7] 39 (0,0)))∧Aside0 (Below w.heap.size w wc))
    case first=>
     have H:=HC12.out
     clear HC12
     by_cases c15:t147=0
     ·rw [if_pos c15] at H
      have c15b1:(t147 !=0)=false:=bne_eq_false_iff_eq.mpr c15
      clear c15
      (first | rw [c15b0] | (simp only [i64_w,i32_w];rw [c15b0]) | skip)
      have H':=aM H
      clear H
      have hcz16_1:w14.cell? ⟨gb145,1,none⟩=some (.int .i64 a0_1):=(blk_cell BK145.out 1).trans rfl
      go_wp2
      (try rw [show Value.bool true=Value.bool (t147 !=0) from congrArg Value.bool (Eq.symm ‹(t147 !=0)=true›)])
      (try rw [show Value.bool false=Value.bool (t147 !=0) from congrArg Value.bool (Eq.symm ‹(t147 !=0)=false›)])
      go_meet
      case rel=>exact ⟨_,((a0_1 !=(-1))),(by first | rfl | (simp;done) | (simp [*];done)),H',⟨by have:=HJ1.out;first | omega | exact Nat.le_refl _⟩,⟨zK BK145.out⟩,⟨zC HB.out GE145.out⟩⟩
     ·rw [if_neg c15] at H
      have c15b1:(t147 !=0)=true:=bne_iff_ne.mpr c15
      (first | rw [c15b0] | (simp only [i64_w,i32_w];rw [c15b0]) | skip)
      by_cases c17:a0_1<0
      ·rw [if_pos c17] at H
       have c17b0:decide (a0_1<0)=true:=decide_eq_true c17
       clear c17
       have H':=aM H
       clear H
       have hcz18_1:w14.cell? ⟨gb145,1,none⟩=some (.int .i64 a0_1):=(blk_cell BK145.out 1).trans rfl
       go_wp2
       (try rw [show Value.bool true=Value.bool (t147 !=0) from congrArg Value.bool (Eq.symm ‹(t147 !=0)=true›)])
       (try rw [show Value.bool false=Value.bool (t147 !=0) from congrArg Value.bool (Eq.symm ‹(t147 !=0)=false›)])
       go_meet
       case rel=>exact ⟨_,(true),(by first | rfl | (simp;done) | (simp [*];done)),H',⟨by have:=HJ1.out;first | omega | exact Nat.le_refl _⟩,⟨zK BK145.out⟩,⟨zC HB.out GE145.out⟩⟩
      ·rw [if_neg c17] at H
       have c17b0:decide (a0_1<0)=false:=decide_eq_false c17
       clear c17
       by_cases c19:a0_1>1048576
       ·rw [if_pos c19] at H
        have c19b0:decide (1048576<a0_1)=true:=decide_eq_true c19
        clear c19
        have H':=aM H
        clear H
        have hcz20_1:w14.cell? ⟨gb145,1,none⟩=some (.int .i64 a0_1):=(blk_cell BK145.out 1).trans rfl
        go_wp2
        (try rw [show Value.bool true=Value.bool (t147 !=0) from congrArg Value.bool (Eq.symm ‹(t147 !=0)=true›)])
        (try rw [show Value.bool false=Value.bool (t147 !=0) from congrArg Value.bool (Eq.symm ‹(t147 !=0)=false›)])
        go_meet
        case rel=>exact ⟨_,(true),(by first | rfl | (simp;done) | (simp [*];done)),H',⟨by have:=HJ1.out;first | omega | exact Nat.le_refl _⟩,⟨zK BK145.out⟩,⟨zC HB.out GE145.out⟩⟩
       ·rw [if_neg c19] at H
        have c19b0:decide (1048576<a0_1)=false:=decide_eq_false c19
        clear c19
        have H':=aM H
        clear H
        have hcz21_1:w14.cell? ⟨gb145,1,none⟩=some (.int .i64 a0_1):=(blk_cell BK145.out 1).trans rfl
        go_wp2
        (try rw [show Value.bool true=Value.bool (t147 !=0) from congrArg Value.bool (Eq.symm ‹(t147 !=0)=true›)])
        (try rw [show Value.bool false=Value.bool (t147 !=0) from congrArg Value.bool (Eq.symm ‹(t147 !=0)=false›)])
        go_meet
        case rel=>exact ⟨_,(false),(by first | rfl | (simp;done) | (simp [*];done)),H',⟨by have:=HJ1.out;first | omega | exact Nat.le_refl _⟩,⟨zK BK145.out⟩,⟨zC HB.out GE145.out⟩⟩
    case rest=>
     clear HC12 hcz13_0 hcz13_1 hcz13_2 hcz13_3 hcz13_4 hcz13_5 hcz13_6 hcz13_7
     obtain ⟨kq,x47_11,rfl,HA,HJ11,BK145,HB⟩:=hcut
     cases kq with
     | zero=>exact absurd HA.out (by simp [r07_Check.j1])
     | succ kj11=>
      have H:=HA.out
      clear HA
      simp only [r07_Check.j1] at H
      by_cases c22:x47_11=true
      ·subst c22
       have H1:(some 8)=some r:=by rw [if_pos rfl] at H;exact H
       clear H
       have H:=H1
       clear H1
       obtain rfl:=Option.some.inj H
       go_wp2
       go_ret
       exact ⟨zF,zC HB.out GE145.out⟩
      ·replace c22:=Bool.eq_false_iff.mpr c22
       subst c22
       have H1:((r07_counts.f kj11 a0_0 a0_1 a0_2 a0_3 l0_4 l0_5 a0_6 a0_7).bind fun t148=>(if t148=true then ((r07_most.f kj11 a0_0).bind fun t149=>(if t149<0 then (if a0_2=0 then (if t149≥0 then (if a0_2>t149 then (r07_Check.j2 kj11 true a0_0 a0_1 a0_2 a0_3 l0_4 l0_5 a0_6 a0_7) else (if a0_2<0 then (r07_Check.j2 kj11 (a0_0 !=1) a0_0 a0_1 a0_2 a0_3 l0_4 l0_5 a0_6 a0_7) else (r07_Check.j2 kj11 false a0_0 a0_1 a0_2 a0_3 l0_4 l0_5 a0_6 a0_7))) else (r07_Check.j2 kj11 false a0_0 a0_1 a0_2 a0_3 l0_4 l0_5 a0_6 a0_7)) else (r07_Check.j2 kj11 true a0_0 a0_1 a0_2 a0_3 l0_4 l0_5 a0_6 a0_7)) else (if t149≥0 then (if a0_2>t149 then (r07_Check.j2 kj11 true a0_0 a0_1 a0_2 a0_3 l0_4 l0_5 a0_6 a0_7) else (if a0_2<0 then (r07_Check.j2 kj11 (a0_0 !=1) a0_0 a0_1 a0_2 a0_3 l0_4 l0_5 a0_6 a0_7) else (r07_Check.j2 kj11 false a0_0 a0_1 a0_2 a0_3 l0_4 l0_5 a0_6 a0_7))) else (r07_Check.j2 kj11 false a0_0 a0_1 a0_2 a0_3 l0_4 l0_5 a0_6 a0_7)))) else (some 13)))=some r:=by rw [if_neg (show ¬ (false=true) by decide)] at H;exact H
       clear H
       have H:=H1
       clear H1
       replace H:=Option.bind_eq_some_iff.mp H
       obtain ⟨t148,A230,H⟩:=H
       have A23:=aM A230
       clear A230
       by_cases c24:t148=true
       ·subst c24
        have H1:((r07_most.f kj11 a0_0).bind fun t149=>(if t149<0 then (if a0_2=0 then (if t149≥0 then (if a0_2>t149 then (r07_Check.j2 kj11 true a0_0 a0_1 a0_2 a0_3 l0_4 l0_5 a0_6 a0_7) else (if a0_2<0 then (r07_Check.j2 kj11 (a0_0 !=1) a0_0 a0_1 a0_2 a0_3 l0_4 l0_5 a0_6 a0_7) else (r07_Check.j2 kj11 false a0_0 a0_1 a0_2 a0_3 l0_4 l0_5 a0_6 a0_7))) else (r07_Check.j2 kj11 false a0_0 a0_1 a0_2 a0_3 l0_4 l0_5 a0_6 a0_7)) else (r07_Check.j2 kj11 true a0_0 a0_1 a0_2 a0_3 l0_4 l0_5 a0_6 a0_7)) else (if t149≥0 then (if a0_2>t149 then (r07_Check.j2 kj11 true a0_0 a0_1 a0_2 a0_3 l0_4 l0_5 a0_6 a0_7) else (if a0_2<0 then (r07_Check.j2 kj11 (a0_0 !=1) a0_0 a0_1 a0_2 a0_3 l0_4 l0_5 a0_6 a0_7) else (r07_Check.j2 kj11 false a0_0 a0_1 a0_2 a0_3 l0_4 l0_5 a0_6 a0_7))) else (r07_Check.j2 kj11 false a0_0 a0_1 a0_2 a0_3 l0_4 l0_5 a0_6 a0_7))))=some r:=by rw [if_pos rfl] at H;exact H
        clear H
        have H:=H1
        clear H1
        replace H:=Option.bind_eq_some_iff.mp H
        obtain ⟨t149,A250,H⟩:=H
        have A25:=aM A250
        clear A250
        have HC26:=aM H
        clear H
        have hcz27_0:wc.cell? ⟨gb145,0,none⟩=some (.int .i64 a0_0):=(blk_cell BK145.out 0).trans rfl
        have hcz27_1:wc.cell? ⟨gb145,1,none⟩=some (.int .i64 a0_1):=(blk_cell BK145.out 1).trans rfl
        have hcz27_2:wc.cell? ⟨gb145,2,none⟩=some (.int .i64 a0_2):=(blk_cell BK145.out 2).trans rfl
        have hcz27_3:wc.cell? ⟨gb145,3,none⟩=some (.int .i64 a0_3):=(blk_cell BK145.out 3).trans rfl
        have hcz27_4:wc.cell? ⟨gb145,4,none⟩=some (.slice A0_4 l0_4.length c0_4):=(blk_cell BK145.out 4).trans rfl
        have hcz27_5:wc.cell? ⟨gb145,5,none⟩=some (.slice A0_5 l0_5.length c0_5):=(blk_cell BK145.out 5).trans rfl
        have hcz27_6:wc.cell? ⟨gb145,6,none⟩=some (.string a0_6):=(blk_cell BK145.out 6).trans rfl
        have hcz27_7:wc.cell? ⟨gb145,7,none⟩=some (.int .i64 a0_7):=(blk_cell BK145.out 7).trans rfl
        go_upto_region 9 with (first | ((with_reducible refine gate_callee (f:=51) rfl ?_);refine goesL_ (some 49) rfl rfl Try.func51 (by kernel_rfl) rfl #[.agg #[.int .i64 a0_0,.int .i64 a0_1,.int .i64 a0_2,.int .i64 a0_3,.slice A0_4 l0_4.length c0_4,.slice A0_5 l0_5.length c0_5,.string a0_6,.int .i64 a0_7]] rfl zA ?_;(with_reducible refine (r07_counts.calls kj11 a0_0 a0_1 a0_2 a0_3 _ _ l0_4 _ _ l0_5 a0_6 a0_7 true _ ?side1 ?side2 ?side3 ?side4 A23.out).mono ?_);(case side1=>repeat (first | exact (Kd.C_below HR0_4.out HB.out) | (with_reducible refine Kd.C_alloc ?_ _) | (with_reducible refine Kd.C_drewN ?_ _) | (with_reducible refine Kd.C_drew ?_)));(case side2=>exact HC0_4.out);(case side3=>repeat (first | exact (Kd.C_below HR0_5.out HB.out) | (with_reducible refine Kd.C_alloc ?_ _) | (with_reducible refine Kd.C_drewN ?_ _) | (with_reducible refine Kd.C_drew ?_)));(case side4=>exact HC0_5.out);rintro e w28 ⟨rfl,hb⟩;refine ⟨_,rfl,?_⟩;have n0_:=aM (blk_below (g:=gb145) (o:=.cells #[.int .i64 a0_0,.int .i64 a0_1,.int .i64 a0_2,.int .i64 a0_3,.slice A0_4 l0_4.length c0_4,.slice A0_5 l0_5.length c0_5,.string a0_6,.int .i64 a0_7] 39 (0,0)) (zK BK145.out) hb);have n1_:=aM (below_step (zC HB.out GE145.out) hb);clear BK145;clear HB;have BK145:=n0_;have HB:=n1_;clear n0_ n1_;(try clear hb);(try clear hb2);(try clear hk);(try clear hi);have hcz29_0:w28.cell? ⟨gb145,0,none⟩=some (.int .i64 a0_0):=(blk_cell BK145.out 0).trans rfl;have hcz29_2:w28.cell? ⟨gb145,2,none⟩=some (.int .i64 a0_2):=(blk_cell BK145.out 2).trans rfl) | ((with_reducible refine gate_callee (f:=52) rfl ?_);refine goesL_ (some 53) rfl rfl Try.func52 (by kernel_rfl) rfl #[.int .i64 a0_0] rfl zA ?_;(with_reducible refine (r07_most.calls kj11 a0_0 t149 _ A25.out).mono ?_);rintro e w' ⟨rfl,⟨nd,rfl⟩⟩;refine ⟨_,rfl,?_⟩))
        (try simp only [Act.put,qA,qB,qC])
        go_cut [80] (fun v80 wc=>∃ (kq:Nat) (x80_25:Bool),v80=.bool x80_25∧Aside0 (r07_Check.j2 kq x80_25 a0_0 a0_1 a0_2 a0_3 l0_4 l0_5 a0_6 a0_7=some r)∧Aside0 (kq≤kj11)∧Aside0 (wc.heap[gb145]?=some (.cells #[.int .i64 a0_0,.int .i64 a0_1,.int .i64 a0_2,.int .i64 a0_3,(.slice A0_4 l0_4.length c0_4),(.slice A0_5 l0_5.length c0_5),.string a0_6,.int .i64 a0_7] 39 (0,0)))∧Aside0 (Below w.heap.size w wc))
        case first=>
         have H:=HC26.out
         clear HC26
         by_cases c30:t149<0
         ·rw [if_pos c30] at H
          have c30b0:decide (t149<0)=true:=decide_eq_true c30
          clear c30
          (first | rw [c30b0] | (simp only [i64_w,i32_w];rw [c30b0]) | skip)
          by_cases c31:a0_2=0
          ·rw [if_pos c31] at H
           have c31b1:(a0_2 !=0)=false:=bne_eq_false_iff_eq.mpr c31
           clear c31
           by_cases c32:t149≥0
           ·rw [if_pos c32] at H
            have c32b0:decide (0≤t149)=true:=decide_eq_true c32
            clear c32
            by_cases c33:a0_2>t149
            ·rw [if_pos c33] at H
             have c33b0:decide (t149<a0_2)=true:=decide_eq_true c33
             clear c33
             have H':=aM H
             clear H
             go_wp2
             go_meet
             case rel=>exact ⟨_,(true),(by first | rfl | (simp;done) | (simp [*];done)),H',⟨by have:=HJ1.out;have:=HJ11.out;first | omega | exact Nat.le_refl _⟩,⟨zK BK145.out⟩,⟨zC HB.out GE145.out⟩⟩
            ·rw [if_neg c33] at H
             have c33b0:decide (t149<a0_2)=false:=decide_eq_false c33
             clear c33
             by_cases c35:a0_2<0
             ·rw [if_pos c35] at H
              have c35b0:decide (a0_2<0)=true:=decide_eq_true c35
              clear c35
              have H':=aM H
              clear H
              go_wp2
              go_meet
              case rel=>exact ⟨_,((a0_0 !=1)),(by first | rfl | (simp;done) | (simp [*];done)),H',⟨by have:=HJ1.out;have:=HJ11.out;first | omega | exact Nat.le_refl _⟩,⟨zK BK145.out⟩,⟨zC HB.out GE145.out⟩⟩
             ·rw [if_neg c35] at H
              have c35b0:decide (a0_2<0)=false:=decide_eq_false c35
              clear c35
              have H':=aM H
              clear H
              go_wp2
              go_meet
              case rel=>exact ⟨_,(false),(by first | rfl | (simp;done) | (simp [*];done)),H',⟨by have:=HJ1.out;have:=HJ11.out;first | omega | exact Nat.le_refl _⟩,⟨zK BK145.out⟩,⟨zC HB.out GE145.out⟩⟩
           ·rw [if_neg c32] at H
            have c32b0:decide (0≤t149)=false:=decide_eq_false c32
            clear c32
            have H':=aM H
            clear H
            go_wp2
            go_meet
            case rel=>exact ⟨_,(false),(by first | rfl | (simp;done) | (simp [*];done)),H',⟨by have:=HJ1.out;have:=HJ11.out;first | omega | exact Nat.le_refl _⟩,⟨zK BK145.out⟩,⟨zC HB.out GE145.out⟩⟩
          ·rw [if_neg c31] at H
           have c31b1:(a0_2 !=0)=true:=bne_iff_ne.mpr c31
           have H':=aM H
           clear H
           go_wp2
           go_meet
           case rel=>exact ⟨_,(true),(by first | rfl | (simp;done) | (simp [*];done)),H',⟨by have:=HJ1.out;have:=HJ11.out;first | omega | exact Nat.le_refl _⟩,⟨zK BK145.out⟩,⟨zC HB.out GE145.out⟩⟩
         ·rw [if_neg c30] at H
          have c30b0:decide (t149<0)=false:=decide_eq_false c30
          clear c30
          (first | rw [c30b0] | (simp only [i64_w,i32_w];rw [c30b0]) | skip)
          by_cases c40:t149≥0
          ·rw [if_pos c40] at H
           have c40b0:decide (0≤t149)=true:=decide_eq_true c40
           clear c40
           by_cases c41:a0_2>t149
           ·rw [if_pos c41] at H
            have c41b0:decide (t149<a0_2)=true:=decide_eq_true c41
            clear c41
            have H':=aM H
            clear H
            go_wp2
            go_meet
            case rel=>exact ⟨_,(true),(by first | rfl | (simp;done) | (simp [*];done)),H',⟨by have:=HJ1.out;have:=HJ11.out;first | omega | exact Nat.le_refl _⟩,⟨zK BK145.out⟩,⟨zC HB.out GE145.out⟩⟩
           ·rw [if_neg c41] at H
            have c41b0:decide (t149<a0_2)=false:=decide_eq_false c41
            clear c41
            by_cases c43:a0_2<0
            ·rw [if_pos c43] at H
             have c43b0:decide (a0_2<0)=true:=decide_eq_true c43
             clear c43
             have H':=aM H
             clear H
             go_wp2
             go_meet
             case rel=>exact ⟨_,((a0_0 !=1)),(by first | rfl | (simp;done) | (simp [*];done)),H',⟨by have:=HJ1.out;have:=HJ11.out;first | omega | exact Nat.le_refl _⟩,⟨zK BK145.out⟩,⟨zC HB.out GE145.out⟩⟩
            ·rw [if_neg c43] at H
             have c43b0:decide (a0_2<0)=false:=decide_eq_false c43
             clear c43
             have H':=aM H
             clear H
             go_wp2
             go_meet
             case rel=>exact ⟨_,(false),(by first | rfl | (simp;done) | (simp [*];done)),H',⟨by have:=HJ1.out;have:=HJ11.out;first | omega | exact Nat.le_refl _⟩,⟨zK BK145.out⟩,⟨zC HB.out GE145.out⟩⟩
          ·rw [if_neg c40] at H
           have c40b0:decide (0≤t149)=false:=decide_eq_false c40
           clear c40
           have H':=aM H
           clear H
           go_wp2
           go_meet
           case rel=>exact ⟨_,(false),(by first | rfl | (simp;done) | (simp [*];done)),H',⟨by have:=HJ1.out;have:=HJ11.out;first | omega | exact Nat.le_refl _⟩,⟨zK BK145.out⟩,⟨zC HB.out GE145.out⟩⟩
        case rest=>
         clear HC26 hcz27_0 hcz27_1 hcz27_2 hcz27_3 hcz27_4 hcz27_5 hcz27_6 hcz27_7 hcz29_0 hcz29_2
         obtain ⟨kq,x80_25,rfl,HA,HJ25,BK145,HB⟩:=hcut
         cases kq with
         | zero=>exact absurd HA.out (by simp [r07_Check.j2])
         | succ kj25=>
          have H:=HA.out
          clear HA
          simp only [r07_Check.j2] at H
          by_cases c46:x80_25=true
          ·subst c46
           have H1:(some 18)=some r:=by rw [if_pos rfl] at H;exact H
           clear H
           have H:=H1
           clear H1
           obtain rfl:=Option.some.inj H
           go_wp2
           go_ret
           exact ⟨zF,zC HB.out GE145.out⟩
          ·replace c46:=Bool.eq_false_iff.mpr c46
           subst c46
           have H1:(r07_Check.l0 kj25 0 a0_0 a0_1 a0_2 a0_3 l0_4 l0_5 a0_6 a0_7)=some r:=by rw [if_neg (show ¬ (false=true) by decide)] at H;exact H
           clear H
           have H:=H1
           clear H1
           have H':=aM H
           clear H
           go_wp2
           go_loopg [5] kj25 (fun kq v5 w'=>∃ (x5_4:Int),v5=.int .i64 x5_4∧Aside0 (r07_Check.l0 kq x5_4 a0_0 a0_1 a0_2 a0_3 l0_4 l0_5 a0_6 a0_7=some r)∧Aside0 (kq≤kj25)∧Aside0 (w'.heap[gb145]?=some (.cells #[.int .i64 a0_0,.int .i64 a0_1,.int .i64 a0_2,.int .i64 a0_3,(.slice A0_4 l0_4.length c0_4),(.slice A0_5 l0_5.length c0_5),.string a0_6,.int .i64 a0_7] 39 (0,0)))∧Aside0 (Below w.heap.size w w'))
           case atStart=>exact ⟨(0),(by first | rfl | (simp;done) | (simp [*];done)),H',⟨Nat.le_refl _⟩,⟨zK BK145.out⟩,⟨zC HB.out GE145.out⟩⟩
           case round=>
            clear H'
            obtain ⟨x5_4,rfl,HA,HK4,BK145,HB⟩:=hrel
            cases gk with
            | zero=>exact absurd HA.out (by simp [r07_Check.l0])
            | succ k4=>
             have H:=HA.out
             clear HA
             simp only [r07_Check.l0] at H
             by_cases c47:x5_4<(l0_4.length:Int)
             ·rw [if_pos c47] at H
              have c47b0:decide (x5_4<(l0_4.length:Int))=true:=decide_eq_true c47
              clear c47
              by_cases c48:0≤x5_4
              ·rw [if_pos c48] at H
               have c48b0:decide (0≤x5_4)=true:=decide_eq_true c48
               clear c48
               by_cases c49:(rd l0_4 x5_4)<0
               ·rw [if_pos c49] at H
                have c49b0:decide ((rd l0_4 x5_4)<0)=true:=decide_eq_true c49
                clear c49
                obtain rfl:=Option.some.inj H
                have hcz50_4:wr.cell? ⟨gb145,4,none⟩=some (.slice A0_4 l0_4.length c0_4):=(blk_cell BK145.out 4).trans rfl
                have p150:0≤(x5_4:Int):=of_decide_eq_true zS
                have q150:x5_4<(l0_4.length:Int):=of_decide_eq_true zS
                obtain ⟨ad150,e150,hx150_0⟩:=Kd.at_int HR0_4.out x5_4 p150 q150
                cases e150
                replace hx150_0:=(HB.out.cell (World.block_lt_of_cell? w _ hx150_0)).trans hx150_0
                replace p150:=eq_true p150
                replace q150:=eq_true q150
                go_wp2
                go_ret
                exact ⟨zF,zC HB.out GE145.out⟩
               ·rw [if_neg c49] at H
                have c49b0:decide ((rd l0_4 x5_4)<0)=false:=decide_eq_false c49
                clear c49
                by_cases c51:(rd l0_4 x5_4)>1048576
                ·rw [if_pos c51] at H
                 have c51b0:decide (1048576<(rd l0_4 x5_4))=true:=decide_eq_true c51
                 clear c51
                 obtain rfl:=Option.some.inj H
                 have hcz52_4:wr.cell? ⟨gb145,4,none⟩=some (.slice A0_4 l0_4.length c0_4):=(blk_cell BK145.out 4).trans rfl
                 have p150:0≤(x5_4:Int):=of_decide_eq_true zS
                 have q150:x5_4<(l0_4.length:Int):=of_decide_eq_true zS
                 obtain ⟨ad150,e150,hx150_0⟩:=Kd.at_int HR0_4.out x5_4 p150 q150
                 cases e150
                 replace hx150_0:=(HB.out.cell (World.block_lt_of_cell? w _ hx150_0)).trans hx150_0
                 replace p150:=eq_true p150
                 replace q150:=eq_true q150
                 have p151:0≤(x5_4:Int):=of_decide_eq_true zS
                 have q151:x5_4<(l0_4.length:Int):=of_decide_eq_true zS
                 obtain ⟨ad151,e151,hx151_0⟩:=Kd.at_int HR0_4.out x5_4 p151 q151
                 obtain rfl:ad150=ad151:=(by injection e151)
                 replace hx151_0:=(HB.out.cell (World.block_lt_of_cell? w _ hx151_0)).trans hx151_0
                 replace p151:=eq_true p151
                 replace q151:=eq_true q151
                 go_wp2
                 go_ret
                 exact ⟨zF,zC HB.out GE145.out⟩
                ·rw [if_neg c51] at H
                 have c51b0:decide (1048576<(rd l0_4 x5_4))=false:=decide_eq_false c51
                 clear c51
                 have H':=aM H
                 clear H
                 have hcz53_4:wr.cell? ⟨gb145,4,none⟩=some (.slice A0_4 l0_4.length c0_4):=(blk_cell BK145.out 4).trans rfl
                 have p150:0≤(x5_4:Int):=of_decide_eq_true zS
                 have q150:x5_4<(l0_4.length:Int):=of_decide_eq_true zS
                 obtain ⟨ad150,e150,hx150_0⟩:=Kd.at_int HR0_4.out x5_4 p150 q150
                 cases e150
                 replace hx150_0:=(HB.out.cell (World.block_lt_of_cell? w _ hx150_0)).trans hx150_0
                 replace p150:=eq_true p150
                 replace q150:=eq_true q150
                 have p151:0≤(x5_4:Int):=of_decide_eq_true zS
                 have q151:x5_4<(l0_4.length:Int):=of_decide_eq_true zS
                 obtain ⟨ad151,e151,hx151_0⟩:=Kd.at_int HR0_4.out x5_4 p151 q151
                 obtain rfl:ad150=ad151:=(by injection e151)
                 replace hx151_0:=(HB.out.cell (World.block_lt_of_cell? w _ hx151_0)).trans hx151_0
                 replace p151:=eq_true p151
                 replace q151:=eq_true q151
                 go_wp2
                 go_roundg k4
                 case measure=>have:=HJ1.out;have:=HJ11.out;have:=HJ25.out;have:=HK4.out;omega
                 case rel=>exact ⟨(wrap64 (x5_4+1)),(by first | rfl | (simp;done) | (simp [*];done)),H',⟨by have:=HJ1.out;have:=HJ11.out;have:=HJ25.out;have:=HK4.out;omega⟩,⟨zK BK145.out⟩,⟨zC HB.out GE145.out⟩⟩
              ·rw [if_neg c48] at H
               exact absurd H (by simp)
             ·rw [if_neg c47] at H
              have c47b0:decide (x5_4<(l0_4.length:Int))=false:=decide_eq_false c47
              clear c47
              have H':=aM H
              clear H
              have hcz54_4:wr.cell? ⟨gb145,4,none⟩=some (.slice A0_4 l0_4.length c0_4):=(blk_cell BK145.out 4).trans rfl
              go_wp2
              go_loopg [6] k4 (fun kq v6 w'=>∃ (x6_5:Int),v6=.int .i64 x6_5∧Aside0 (r07_Check.l1 kq x6_5 a0_0 a0_1 a0_2 a0_3 l0_4 l0_5 a0_6 a0_7=some r)∧Aside0 (kq≤k4)∧Aside0 (w'.heap[gb145]?=some (.cells #[.int .i64 a0_0,.int .i64 a0_1,.int .i64 a0_2,.int .i64 a0_3,(.slice A0_4 l0_4.length c0_4),(.slice A0_5 l0_5.length c0_5),.string a0_6,.int .i64 a0_7] 39 (0,0)))∧Aside0 (Below w.heap.size w w'))
              case atStart=>exact ⟨(0),(by first | rfl | (simp;done) | (simp [*];done)),H',⟨Nat.le_refl _⟩,⟨zK BK145.out⟩,⟨zC HB.out GE145.out⟩⟩
              case round=>
               clear H' c47b0 hcz54_4
               obtain ⟨x6_5,rfl,HA,HK5,BK145,HB⟩:=hrel
               cases gk with
               | zero=>exact absurd HA.out (by simp [r07_Check.l1])
               | succ k5=>
                have H:=HA.out
                clear HA
                simp only [r07_Check.l1] at H
                by_cases c55:x6_5<(l0_5.length:Int)
                ·rw [if_pos c55] at H
                 have c55b0:decide (x6_5<(l0_5.length:Int))=true:=decide_eq_true c55
                 clear c55
                 by_cases c56:0≤x6_5
                 ·rw [if_pos c56] at H
                  have c56b0:decide (0≤x6_5)=true:=decide_eq_true c56
                  clear c56
                  by_cases c57:(rd l0_5 x6_5)<0
                  ·rw [if_pos c57] at H
                   have c57b0:decide ((rd l0_5 x6_5)<0)=true:=decide_eq_true c57
                   clear c57
                   obtain rfl:=Option.some.inj H
                   have hcz58_5:wr.cell? ⟨gb145,5,none⟩=some (.slice A0_5 l0_5.length c0_5):=(blk_cell BK145.out 5).trans rfl
                   have p152:0≤(x6_5:Int):=of_decide_eq_true zS
                   have q152:x6_5<(l0_5.length:Int):=of_decide_eq_true zS
                   obtain ⟨ad152,e152,hx152_0⟩:=Kd.at_int HR0_5.out x6_5 p152 q152
                   cases e152
                   replace hx152_0:=(HB.out.cell (World.block_lt_of_cell? w _ hx152_0)).trans hx152_0
                   replace p152:=eq_true p152
                   replace q152:=eq_true q152
                   go_wp2
                   go_ret
                   exact ⟨zF,zC HB.out GE145.out⟩
                  ·rw [if_neg c57] at H
                   have c57b0:decide ((rd l0_5 x6_5)<0)=false:=decide_eq_false c57
                   clear c57
                   by_cases c59:(rd l0_5 x6_5)>255
                   ·rw [if_pos c59] at H
                    have c59b0:decide (255<(rd l0_5 x6_5))=true:=decide_eq_true c59
                    clear c59
                    obtain rfl:=Option.some.inj H
                    have hcz60_5:wr.cell? ⟨gb145,5,none⟩=some (.slice A0_5 l0_5.length c0_5):=(blk_cell BK145.out 5).trans rfl
                    have p152:0≤(x6_5:Int):=of_decide_eq_true zS
                    have q152:x6_5<(l0_5.length:Int):=of_decide_eq_true zS
                    obtain ⟨ad152,e152,hx152_0⟩:=Kd.at_int HR0_5.out x6_5 p152 q152
                    cases e152
                    replace hx152_0:=(HB.out.cell (World.block_lt_of_cell? w _ hx152_0)).trans hx152_0
                    replace p152:=eq_true p152
                    replace q152:=eq_true q152
                    have p153:0≤(x6_5:Int):=of_decide_eq_true zS
                    have q153:x6_5<(l0_5.length:Int):=of_decide_eq_true zS
                    obtain ⟨ad153,e153,hx153_0⟩:=Kd.at_int HR0_5.out x6_5 p153 q153
                    obtain rfl:ad152=ad153:=(by injection e153)
                    replace hx153_0:=(HB.out.cell (World.block_lt_of_cell? w _ hx153_0)).trans hx153_0
                    replace p153:=eq_true p153
                    replace q153:=eq_true q153
                    go_wp2
                    go_ret
                    exact ⟨zF,zC HB.out GE145.out⟩
                   ·rw [if_neg c59] at H
                    have c59b0:decide (255<(rd l0_5 x6_5))=false:=decide_eq_false c59
                    clear c59
                    have H':=aM H
                    clear H
                    have hcz61_5:wr.cell? ⟨gb145,5,none⟩=some (.slice A0_5 l0_5.length c0_5):=(blk_cell BK145.out 5).trans rfl
                    have p152:0≤(x6_5:Int):=of_decide_eq_true zS
                    have q152:x6_5<(l0_5.length:Int):=of_decide_eq_true zS
                    obtain ⟨ad152,e152,hx152_0⟩:=Kd.at_int HR0_5.out x6_5 p152 q152
                    cases e152
                    replace hx152_0:=(HB.out.cell (World.block_lt_of_cell? w _ hx152_0)).trans hx152_0
                    replace p152:=eq_true p152
                    replace q152:=eq_true q152
                    have p153:0≤(x6_5:Int):=of_decide_eq_true zS
                    have q153:x6_5<(l0_5.length:Int):=of_decide_eq_true zS
                    obtain ⟨ad153,e153,hx153_0⟩:=Kd.at_int HR0_5.out x6_5 p153 q153
                    obtain rfl:ad152=ad153:=(by injection e153)
                    replace hx153_0:=(HB.out.cell (World.block_lt_of_cell? w _ hx153_0)).trans hx153_0
                    replace p153:=eq_true p153
                    replace q153:=eq_true q153
                    go_wp2
                    go_roundg k5
                    case measure=>have:=HJ1.out;have:=HJ11.out;have:=HJ25.out;have:=HK4.out;have:=HK5.out;omega
                    case rel=>exact ⟨(wrap64 (x6_5+1)),(by first | rfl | (simp;done) | (simp [*];done)),H',⟨by have:=HJ1.out;have:=HJ11.out;have:=HJ25.out;have:=HK4.out;have:=HK5.out;omega⟩,⟨zK BK145.out⟩,⟨zC HB.out GE145.out⟩⟩
                 ·rw [if_neg c56] at H
                  exact absurd H (by simp)
                ·rw [if_neg c55] at H
                 have c55b0:decide (x6_5<(l0_5.length:Int))=false:=decide_eq_false c55
                 clear c55
                 by_cases c62:a0_0=10
                 ·rw [if_pos c62] at H
                  have c62b0:(a0_0==10)=true:=beq_iff_eq.mpr c62
                  clear c62
                  replace H:=Option.bind_eq_some_iff.mp H
                  obtain ⟨⟨t154,t155,t156⟩,A630,H⟩:=H
                  have A63:=aM A630
                  clear A630
                  obtain rfl:=Option.some.inj H
                  have hcz64_0:wr.cell? ⟨gb145,0,none⟩=some (.int .i64 a0_0):=(blk_cell BK145.out 0).trans rfl
                  have hcz64_5:wr.cell? ⟨gb145,5,none⟩=some (.slice A0_5 l0_5.length c0_5):=(blk_cell BK145.out 5).trans rfl
                  have hcz64_6:wr.cell? ⟨gb145,6,none⟩=some (.string a0_6):=(blk_cell BK145.out 6).trans rfl
                  go_wp2_with (first | ((with_reducible refine gate_callee (f:=53) rfl ?_);refine goesL_ (some 129) rfl rfl Try.func53 (by kernel_rfl) rfl #[.string a0_6] rfl zA ?_;(with_reducible refine (r03_Parse.calls k5 a0_6 t154 t155 t156 _ A63.out).mono ?_);rintro e w65 ⟨rfl,hb⟩;refine ⟨_,rfl,?_⟩;have n0_:=aM (blk_below (g:=gb145) (o:=.cells #[.int .i64 a0_0,.int .i64 a0_1,.int .i64 a0_2,.int .i64 a0_3,.slice A0_4 l0_4.length c0_4,.slice A0_5 l0_5.length c0_5,.string a0_6,.int .i64 a0_7] 39 (0,0)) (zK BK145.out) hb);have n1_:=aM (below_step (zC HB.out GE145.out) hb);clear BK145;clear HB;have BK145:=n0_;have HB:=n1_;clear n0_ n1_;(try clear hb);(try clear hb2);(try clear hk);(try clear hi)) | ((with_reducible refine gate_dst (N:=7) rfl ?_);refine box_event ?hg (N:=7) ?hd (cs:=#[.int .i64 0,.int .i64 0]) (t:=73) ?hr ?_;(case hd=>rfl);(case hg=>rfl);(case hr=>first | (go_simp;done) | (go_simp;rfl));intro gb157 hg w66 hbox hb;have n0_:=aM (blk_below (g:=gb145) (o:=.cells #[.int .i64 a0_0,.int .i64 a0_1,.int .i64 a0_2,.int .i64 a0_3,.slice A0_4 l0_4.length c0_4,.slice A0_5 l0_5.length c0_5,.string a0_6,.int .i64 a0_7] 39 (0,0)) (zK BK145.out) hb);have n1_:=aM (below_step (zC HB.out GE145.out) hb);have n2_:=aM (hbox);have n3_:=aM ((by rw [hg];exact (below_size (zC HB.out GE145.out)):w.heap.size≤gb157));have n4_:=aM ((by rw [hg];exact (below_size (zC HB.out GE145.out)):w.heap.size≤gb157));have n5_:=aM ((by rw [hg];exact Nat.ne_of_lt (blk_lt (g:=gb145) (o:=.cells #[.int .i64 a0_0,.int .i64 a0_1,.int .i64 a0_2,.int .i64 a0_3,.slice A0_4 l0_4.length c0_4,.slice A0_5 l0_5.length c0_5,.string a0_6,.int .i64 a0_7] 39 (0,0)) (zK BK145.out)):gb145≠gb157));have n6_:=aM ((by rw [hg];exact Nat.ne_of_gt (blk_lt (g:=gb145) (o:=.cells #[.int .i64 a0_0,.int .i64 a0_1,.int .i64 a0_2,.int .i64 a0_3,.slice A0_4 l0_4.length c0_4,.slice A0_5 l0_5.length c0_5,.string a0_6,.int .i64 a0_7] 39 (0,0)) (zK BK145.out)):gb157≠gb145));clear BK145;clear HB;have BK145:=n0_;have HB:=n1_;have BK157:=n2_;have GE157:=n4_;have NB145_157:=n5_;have NB157_145:=n6_;clear n0_ n1_ n2_ n3_ n4_ n5_ n6_;clear hb hbox hg;have hcz68_0:w66.cell? ⟨gb157,0,none⟩=some (.int .i64 0):=(blk_cell BK157.out 0).trans rfl;have hcz68_1:w66.cell? ⟨gb157,1,none⟩=some (.int .i64 0):=(blk_cell BK157.out 1).trans rfl;have hfz68_0:=blk_frozen BK157.out 0;have hfz68_1:=blk_frozen BK157.out 1))
                  go_ret
                  exact ⟨zF,zD HB.out GE145.out GE157.out⟩
                 ·rw [if_neg c62] at H
                  have c62b0:(a0_0==10)=false:=beq_eq_false_iff_ne.mpr c62
                  by_cases c69:a0_0=21
                  ·rw [if_pos c69] at H
                   have c69b0:(a0_0==21)=true:=beq_iff_eq.mpr c69
                   have c69b1:(a0_0 !=21)=false:=bne_eq_false_iff_eq.mpr c69
                   clear c69
                   replace H:=Option.bind_eq_some_iff.mp H
                   obtain ⟨t158,A700,H⟩:=H
                   have A70:=aM A700
                   clear A700
                   by_cases c71:t158=true
                   ·subst c71
                    have H1:(some 0)=some r:=by rw [if_pos rfl] at H;exact H
                    clear H
                    have H:=H1
                    clear H1
                    obtain rfl:=Option.some.inj H
                    have hcz72_0:wr.cell? ⟨gb145,0,none⟩=some (.int .i64 a0_0):=(blk_cell BK145.out 0).trans rfl
                    have hcz72_5:wr.cell? ⟨gb145,5,none⟩=some (.slice A0_5 l0_5.length c0_5):=(blk_cell BK145.out 5).trans rfl
                    have hcz72_6:wr.cell? ⟨gb145,6,none⟩=some (.string a0_6):=(blk_cell BK145.out 6).trans rfl
                    go_wp2_with (first | (go_at_call 24;(with_reducible refine (r02_Name.calls k5 a0_6 true _ A70.out).mono ?_);rintro e w' ⟨rfl,⟨nd,rfl⟩⟩))
                    go_ret
                    exact ⟨zF,zC HB.out GE145.out⟩
                   ·replace c71:=Bool.eq_false_iff.mpr c71
                    subst c71
                    have H1:(some 4)=some r:=by rw [if_neg (show ¬ (false=true) by decide)] at H;exact H
                    clear H
                    have H:=H1
                    clear H1
                    obtain rfl:=Option.some.inj H
                    have hcz73_0:wr.cell? ⟨gb145,0,none⟩=some (.int .i64 a0_0):=(blk_cell BK145.out 0).trans rfl
                    have hcz73_5:wr.cell? ⟨gb145,5,none⟩=some (.slice A0_5 l0_5.length c0_5):=(blk_cell BK145.out 5).trans rfl
                    have hcz73_6:wr.cell? ⟨gb145,6,none⟩=some (.string a0_6):=(blk_cell BK145.out 6).trans rfl
                    go_wp2_with (first | (go_at_call 24;(with_reducible refine (r02_Name.calls k5 a0_6 false _ A70.out).mono ?_);rintro e w' ⟨rfl,⟨nd,rfl⟩⟩))
                    go_ret
                    exact ⟨zF,zC HB.out GE145.out⟩
                  ·rw [if_neg c69] at H
                   have c69b0:(a0_0==21)=false:=beq_eq_false_iff_ne.mpr c69
                   have c69b1:(a0_0 !=21)=true:=bne_iff_ne.mpr c69
                   by_cases c74:a0_6.toList=([]:List UInt8)
                   ·rw [if_pos c74] at H
                    have c74b0:(a0_6.toList==([]:List UInt8))=true:=beq_iff_eq.mpr c74
                    clear c74
                    obtain rfl:=Option.some.inj H
                    have hcz75_0:wr.cell? ⟨gb145,0,none⟩=some (.int .i64 a0_0):=(blk_cell BK145.out 0).trans rfl
                    have hcz75_5:wr.cell? ⟨gb145,5,none⟩=some (.slice A0_5 l0_5.length c0_5):=(blk_cell BK145.out 5).trans rfl
                    have hcz75_6:wr.cell? ⟨gb145,6,none⟩=some (.string a0_6):=(blk_cell BK145.out 6).trans rfl
                    go_wp2
                    go_ret
                    exact ⟨zF,zC HB.out GE145.out⟩
                   ·rw [if_neg c74] at H
                    have c74b0:(a0_6.toList==([]:List UInt8))=false:=beq_eq_false_iff_ne.mpr c74
                    obtain rfl:=Option.some.inj H
                    have hcz76_0:wr.cell? ⟨gb145,0,none⟩=some (.int .i64 a0_0):=(blk_cell BK145.out 0).trans rfl
                    have hcz76_5:wr.cell? ⟨gb145,5,none⟩=some (.slice A0_5 l0_5.length c0_5):=(blk_cell BK145.out 5).trans rfl
                    have hcz76_6:wr.cell? ⟨gb145,6,none⟩=some (.string a0_6):=(blk_cell BK145.out 6).trans rfl
                    go_wp2
                    go_ret
                    exact ⟨zF,zC HB.out GE145.out⟩
       ·replace c24:=Bool.eq_false_iff.mpr c24
        subst c24
        have H1:(some 13)=some r:=by rw [if_neg (show ¬ (false=true) by decide)] at H;exact H
        clear H
        have H:=H1
        clear H1
        obtain rfl:=Option.some.inj H
        have hcz77_0:wc.cell? ⟨gb145,0,none⟩=some (.int .i64 a0_0):=(blk_cell BK145.out 0).trans rfl
        have hcz77_1:wc.cell? ⟨gb145,1,none⟩=some (.int .i64 a0_1):=(blk_cell BK145.out 1).trans rfl
        have hcz77_2:wc.cell? ⟨gb145,2,none⟩=some (.int .i64 a0_2):=(blk_cell BK145.out 2).trans rfl
        have hcz77_3:wc.cell? ⟨gb145,3,none⟩=some (.int .i64 a0_3):=(blk_cell BK145.out 3).trans rfl
        have hcz77_4:wc.cell? ⟨gb145,4,none⟩=some (.slice A0_4 l0_4.length c0_4):=(blk_cell BK145.out 4).trans rfl
        have hcz77_5:wc.cell? ⟨gb145,5,none⟩=some (.slice A0_5 l0_5.length c0_5):=(blk_cell BK145.out 5).trans rfl
        have hcz77_6:wc.cell? ⟨gb145,6,none⟩=some (.string a0_6):=(blk_cell BK145.out 6).trans rfl
        have hcz77_7:wc.cell? ⟨gb145,7,none⟩=some (.int .i64 a0_7):=(blk_cell BK145.out 7).trans rfl
        go_wp2_with (first | ((with_reducible refine gate_callee (f:=51) rfl ?_);refine goesL_ (some 49) rfl rfl Try.func51 (by kernel_rfl) rfl #[.agg #[.int .i64 a0_0,.int .i64 a0_1,.int .i64 a0_2,.int .i64 a0_3,.slice A0_4 l0_4.length c0_4,.slice A0_5 l0_5.length c0_5,.string a0_6,.int .i64 a0_7]] rfl zA ?_;(with_reducible refine (r07_counts.calls kj11 a0_0 a0_1 a0_2 a0_3 _ _ l0_4 _ _ l0_5 a0_6 a0_7 false _ ?side1 ?side2 ?side3 ?side4 A23.out).mono ?_);(case side1=>repeat (first | exact (Kd.C_below HR0_4.out HB.out) | (with_reducible refine Kd.C_alloc ?_ _) | (with_reducible refine Kd.C_drewN ?_ _) | (with_reducible refine Kd.C_drew ?_)));(case side2=>exact HC0_4.out);(case side3=>repeat (first | exact (Kd.C_below HR0_5.out HB.out) | (with_reducible refine Kd.C_alloc ?_ _) | (with_reducible refine Kd.C_drewN ?_ _) | (with_reducible refine Kd.C_drew ?_)));(case side4=>exact HC0_5.out);rintro e w78 ⟨rfl,hb⟩;refine ⟨_,rfl,?_⟩;have n0_:=aM (blk_below (g:=gb145) (o:=.cells #[.int .i64 a0_0,.int .i64 a0_1,.int .i64 a0_2,.int .i64 a0_3,.slice A0_4 l0_4.length c0_4,.slice A0_5 l0_5.length c0_5,.string a0_6,.int .i64 a0_7] 39 (0,0)) (zK BK145.out) hb);have n1_:=aM (below_step (zC HB.out GE145.out) hb);clear BK145;clear HB;have BK145:=n0_;have HB:=n1_;clear n0_ n1_;(try clear hb);(try clear hb2);(try clear hk);(try clear hi)))
        go_ret
        exact ⟨zF,zC HB.out GE145.out⟩
mutual
def r07_head.j0:Nat→Bool→ByteArray→List Int→Int→List (List (S39))→Int→Option (Int)
 | 0,_,_,_,_,_,_=>none
 | k+1,x19,x160000,x160001,x160002,x160003,x160004=>if x19=true then (some 6) else ((r02_Name.f k x160000).bind fun t160=>(if t160=true then (if x160002<0 then (r07_head.j1 k true x160000 x160001 x160002 x160003 x160004) else (r07_head.j1 k (decide (x160002>2)) x160000 x160001 x160002 x160003 x160004)) else (some 4)))
def r07_head.j1:Nat→Bool→ByteArray→List Int→Int→List (List (S39))→Int→Option (Int)
 | 0,_,_,_,_,_,_=>none
 | k+1,x31,x160000,x160001,x160002,x160003,x160004=>if x31=true then (some 9) else (r07_head.l0 k 0 x160000 x160001 x160002 x160003 x160004)
def r07_head.l0:Nat→Int→ByteArray→List Int→Int→List (List (S39))→Int→Option (Int)
 | 0,_,_,_,_,_,_=>none
 | k+1,x5,x160000,x160001,x160002,x160003,x160004=>if x5<(x160001.length:Int) then (if 0≤x5 then (if (rd x160001 x5)<1 then (some 9) else (if (rd x160001 x5)>2 then (some 9) else (r07_head.l0 k (wrap64 (x5+1)) x160000 x160001 x160002 x160003 x160004))) else (none)) else (some 0)
end
def r07_head.f (k:Nat) (a0_0:ByteArray) (l0_1:List Int) (a0_2:Int) (l0_3:List (List (S39))) (a0_4:Int) (a1:Int):Option (Int):=if a1≥32 then (r07_head.j0 k true a0_0 l0_1 a0_2 l0_3 a0_4) else (if (l0_1.length:Int)>8 then (r07_head.j0 k true a0_0 l0_1 a0_2 l0_3 a0_4) else (r07_head.j0 k (decide ((l0_3.length:Int)>256)) a0_0 l0_1 a0_2 l0_3 a0_4))
theorem r07_head.calls (k:Nat) (a0_0:ByteArray) (A0_1:Option Addr) (c0_1:Nat) (l0_1:List Int) (a0_2:Int) (A0_3:Option Addr) (c0_3:Nat) (l0_3:List (List (S39))) (a0_4:Int) (a1:Int) (r:Int) (w:World) (hr0_1:Kd.C (Kd.int .i64) w A0_1 l0_1.length l0_1) (hc0_1:l0_1.length≤c0_1) (hr0_3:Kd.C (Kd.slice 39 k39) w A0_3 l0_3.length l0_3) (hc0_3:l0_3.length≤c0_3) (h:r07_head.f k a0_0 l0_1 a0_2 l0_3 a0_4 a1=some r):
  Calls Try.prog 28 #[.agg #[.string a0_0,.slice A0_1 l0_1.length c0_1,.int .i64 a0_2,.slice A0_3 l0_3.length c0_3,.int .i64 a0_4],.int .i64 a1] w fun e w'=>e=.returned (.int .i64 r)∧Below w.heap.size w w':=by
 have HR0_1:=aM hr0_1
 clear hr0_1 hc0_1 hr0_3 hc0_3
 have HB:=aM (Below.refl w.heap.size w)
 have H:(if a1≥32 then (r07_head.j0 k true a0_0 l0_1 a0_2 l0_3 a0_4) else (if (l0_1.length:Int)>8 then (r07_head.j0 k true a0_0 l0_1 a0_2 l0_3 a0_4) else (r07_head.j0 k (decide ((l0_3.length:Int)>256)) a0_0 l0_1 a0_2 l0_3 a0_4)))=some r:=h
 clear h
 have HC3:=aM H
 clear H
 go_enter Try.func28,Try.ntmps28
 go_upto_region 1 with (first | ((with_reducible refine gate_dst (N:=2) rfl ?_);(try (refine gate_guard (by rfl) ?_;dsimp only));refine box_event ?hg (N:=2) ?hd (cs:=#[.string a0_0,.slice A0_1 l0_1.length c0_1,.int .i64 a0_2,.slice A0_3 l0_3.length c0_3,.int .i64 a0_4]) (t:=34) ?hr ?_;(case hd=>rfl);(case hg=>rfl);(case hr=>first | (go_simp;done) | (go_simp;rfl));intro gb159 hg w4 hbox hb;have n0_:=aM (below_step (zB HB.out) hb);have n1_:=aM (hbox);have n2_:=aM ((by rw [hg];exact (below_size (zB HB.out)):w.heap.size≤gb159));have n3_:=aM ((by rw [hg];exact (below_size (zB HB.out)):w.heap.size≤gb159));clear HB;have HB:=n0_;have BK159:=n1_;have GE159:=n3_;clear n0_ n1_ n2_ n3_;clear hb hbox hg))
 (try simp only [Act.put,qA,qB,qC])
 go_cut [19] (fun v19 wc=>∃ (kq:Nat) (x19_2:Bool),v19=.bool x19_2∧Aside0 (r07_head.j0 kq x19_2 a0_0 l0_1 a0_2 l0_3 a0_4=some r)∧Aside0 (kq≤k)∧Aside0 (wc.heap[gb159]?=some (.cells #[.string a0_0,(.slice A0_1 l0_1.length c0_1),.int .i64 a0_2,(.slice A0_3 l0_3.length c0_3),.int .i64 a0_4] 34 (0,0)))∧Aside0 (Below w.heap.size w wc))
 case first=>
  have H:=HC3.out
  clear HC3
  by_cases c5:a1≥32
  ·rw [if_pos c5] at H
   have c5b0:decide (32≤a1)=true:=decide_eq_true c5
   clear c5
   (first | rw [c5b0] | (simp only [i64_w,i32_w];rw [c5b0]) | skip)
   have H':=aM H
   clear H
   go_wp2
   go_meet
   case rel=>exact ⟨_,(true),(by first | rfl | (simp;done) | (simp [*];done)),H',⟨by first | omega | exact Nat.le_refl _⟩,⟨zK BK159.out⟩,⟨zC HB.out GE159.out⟩⟩
  ·rw [if_neg c5] at H
   have c5b0:decide (32≤a1)=false:=decide_eq_false c5
   clear c5
   (first | rw [c5b0] | (simp only [i64_w,i32_w];rw [c5b0]) | skip)
   by_cases c6:(l0_1.length:Int)>8
   ·rw [if_pos c6] at H
    have c6b0:decide (8<(l0_1.length:Int))=true:=decide_eq_true c6
    clear c6
    have H':=aM H
    clear H
    have hcz7_1:w4.cell? ⟨gb159,1,none⟩=some (.slice A0_1 l0_1.length c0_1):=(blk_cell BK159.out 1).trans rfl
    go_wp2
    go_meet
    case rel=>exact ⟨_,(true),(by first | rfl | (simp;done) | (simp [*];done)),H',⟨by first | omega | exact Nat.le_refl _⟩,⟨zK BK159.out⟩,⟨zC HB.out GE159.out⟩⟩
   ·rw [if_neg c6] at H
    have c6b0:decide (8<(l0_1.length:Int))=false:=decide_eq_false c6
    clear c6
    have H':=aM H
    clear H
    have hcz8_1:w4.cell? ⟨gb159,1,none⟩=some (.slice A0_1 l0_1.length c0_1):=(blk_cell BK159.out 1).trans rfl
    have hcz8_3:w4.cell? ⟨gb159,3,none⟩=some (.slice A0_3 l0_3.length c0_3):=(blk_cell BK159.out 3).trans rfl
    go_wp2
    go_meet
    case rel=>exact ⟨_,(decide ((l0_3.length:Int)>256)),(by first | rfl | (simp;done) | (simp [*];done)),H',⟨by first | omega | exact Nat.le_refl _⟩,⟨zK BK159.out⟩,⟨zC HB.out GE159.out⟩⟩
 case rest=>
  clear HC3
  obtain ⟨kq,x19_2,rfl,HA,HJ2,BK159,HB⟩:=hcut
  cases kq with
  | zero=>exact absurd HA.out (by simp [r07_head.j0])
  | succ kj2=>
   have H:=HA.out
   clear HA
   simp only [r07_head.j0] at H
   by_cases c9:x19_2=true
   ·subst c9
    have H1:(some 6)=some r:=by rw [if_pos rfl] at H;exact H
    clear H
    have H:=H1
    clear H1
    obtain rfl:=Option.some.inj H
    go_wp2
    go_ret
    exact ⟨zF,zC HB.out GE159.out⟩
   ·replace c9:=Bool.eq_false_iff.mpr c9
    subst c9
    have H1:((r02_Name.f kj2 a0_0).bind fun t160=>(if t160=true then (if a0_2<0 then (r07_head.j1 kj2 true a0_0 l0_1 a0_2 l0_3 a0_4) else (r07_head.j1 kj2 (decide (a0_2>2)) a0_0 l0_1 a0_2 l0_3 a0_4)) else (some 4)))=some r:=by rw [if_neg (show ¬ (false=true) by decide)] at H;exact H
    clear H
    have H:=H1
    clear H1
    replace H:=Option.bind_eq_some_iff.mp H
    obtain ⟨t160,A100,H⟩:=H
    have A10:=aM A100
    clear A100
    by_cases c11:t160=true
    ·subst c11
     have H1:(if a0_2<0 then (r07_head.j1 kj2 true a0_0 l0_1 a0_2 l0_3 a0_4) else (r07_head.j1 kj2 (decide (a0_2>2)) a0_0 l0_1 a0_2 l0_3 a0_4))=some r:=by rw [if_pos rfl] at H;exact H
     clear H
     have H:=H1
     clear H1
     have HC12:=aM H
     clear H
     have hcz13_0:wc.cell? ⟨gb159,0,none⟩=some (.string a0_0):=(blk_cell BK159.out 0).trans rfl
     have hcz13_2:wc.cell? ⟨gb159,2,none⟩=some (.int .i64 a0_2):=(blk_cell BK159.out 2).trans rfl
     go_upto_region 5 with (first | ((with_reducible refine gate_callee (f:=24) rfl ?_);refine goesL_ (some 22) rfl rfl Try.func24 (by kernel_rfl) rfl #[.string a0_0] rfl zA ?_;(with_reducible refine (r02_Name.calls kj2 a0_0 true _ A10.out).mono ?_);rintro e w' ⟨rfl,⟨nd,rfl⟩⟩;refine ⟨_,rfl,?_⟩))
     (try simp only [Act.put,qA,qB,qC])
     go_cut [31] (fun v31 wc=>∃ (kq:Nat) (x31_11:Bool),v31=.bool x31_11∧Aside0 (r07_head.j1 kq x31_11 a0_0 l0_1 a0_2 l0_3 a0_4=some r)∧Aside0 (kq≤kj2)∧Aside0 (wc.heap[gb159]?=some (.cells #[.string a0_0,(.slice A0_1 l0_1.length c0_1),.int .i64 a0_2,(.slice A0_3 l0_3.length c0_3),.int .i64 a0_4] 34 (0,0)))∧Aside0 (Below w.heap.size w wc))
     case first=>
      have H:=HC12.out
      clear HC12
      by_cases c14:a0_2<0
      ·rw [if_pos c14] at H
       have c14b0:decide (a0_2<0)=true:=decide_eq_true c14
       clear c14
       (first | rw [c14b0] | (simp only [i64_w,i32_w];rw [c14b0]) | skip)
       have H':=aM H
       clear H
       go_wp2
       go_meet
       case rel=>exact ⟨_,(true),(by first | rfl | (simp;done) | (simp [*];done)),H',⟨by have:=HJ2.out;first | omega | exact Nat.le_refl _⟩,⟨zK BK159.out⟩,⟨zC HB.out GE159.out⟩⟩
      ·rw [if_neg c14] at H
       have c14b0:decide (a0_2<0)=false:=decide_eq_false c14
       clear c14
       (first | rw [c14b0] | (simp only [i64_w,i32_w];rw [c14b0]) | skip)
       have H':=aM H
       clear H
       go_wp2
       go_meet
       case rel=>exact ⟨_,(decide (a0_2>2)),(by first | rfl | (simp;done) | (simp [*];done)),H',⟨by have:=HJ2.out;first | omega | exact Nat.le_refl _⟩,⟨zK BK159.out⟩,⟨zC HB.out GE159.out⟩⟩
     case rest=>
      clear HC12 hcz13_0 hcz13_2
      obtain ⟨kq,x31_11,rfl,HA,HJ11,BK159,HB⟩:=hcut
      cases kq with
      | zero=>exact absurd HA.out (by simp [r07_head.j1])
      | succ kj11=>
       have H:=HA.out
       clear HA
       simp only [r07_head.j1] at H
       by_cases c17:x31_11=true
       ·subst c17
        have H1:(some 9)=some r:=by rw [if_pos rfl] at H;exact H
        clear H
        have H:=H1
        clear H1
        obtain rfl:=Option.some.inj H
        go_wp2
        go_ret
        exact ⟨zF,zC HB.out GE159.out⟩
       ·replace c17:=Bool.eq_false_iff.mpr c17
        subst c17
        have H1:(r07_head.l0 kj11 0 a0_0 l0_1 a0_2 l0_3 a0_4)=some r:=by rw [if_neg (show ¬ (false=true) by decide)] at H;exact H
        clear H
        have H:=H1
        clear H1
        have H':=aM H
        clear H
        go_wp2
        go_loopg [5] kj11 (fun kq v5 w'=>∃ (x5_3:Int),v5=.int .i64 x5_3∧Aside0 (r07_head.l0 kq x5_3 a0_0 l0_1 a0_2 l0_3 a0_4=some r)∧Aside0 (kq≤kj11)∧Aside0 (w'.heap[gb159]?=some (.cells #[.string a0_0,(.slice A0_1 l0_1.length c0_1),.int .i64 a0_2,(.slice A0_3 l0_3.length c0_3),.int .i64 a0_4] 34 (0,0)))∧Aside0 (Below w.heap.size w w'))
        case atStart=>exact ⟨(0),(by first | rfl | (simp;done) | (simp [*];done)),H',⟨Nat.le_refl _⟩,⟨zK BK159.out⟩,⟨zC HB.out GE159.out⟩⟩
        case round=>
         clear H'
         obtain ⟨x5_3,rfl,HA,HK3,BK159,HB⟩:=hrel
         cases gk with
         | zero=>exact absurd HA.out (by simp [r07_head.l0])
         | succ k3=>
          have H:=HA.out
          clear HA
          simp only [r07_head.l0] at H
          by_cases c18:x5_3<(l0_1.length:Int)
          ·rw [if_pos c18] at H
           have c18b0:decide (x5_3<(l0_1.length:Int))=true:=decide_eq_true c18
           clear c18
           by_cases c19:0≤x5_3
           ·rw [if_pos c19] at H
            have c19b0:decide (0≤x5_3)=true:=decide_eq_true c19
            clear c19
            by_cases c20:(rd l0_1 x5_3)<1
            ·rw [if_pos c20] at H
             have c20b0:decide ((rd l0_1 x5_3)<1)=true:=decide_eq_true c20
             clear c20
             obtain rfl:=Option.some.inj H
             have hcz21_1:wr.cell? ⟨gb159,1,none⟩=some (.slice A0_1 l0_1.length c0_1):=(blk_cell BK159.out 1).trans rfl
             have p161:0≤(x5_3:Int):=of_decide_eq_true zS
             have q161:x5_3<(l0_1.length:Int):=of_decide_eq_true zS
             obtain ⟨ad161,e161,hx161_0⟩:=Kd.at_int HR0_1.out x5_3 p161 q161
             cases e161
             replace hx161_0:=(HB.out.cell (World.block_lt_of_cell? w _ hx161_0)).trans hx161_0
             replace p161:=eq_true p161
             replace q161:=eq_true q161
             go_wp2
             go_ret
             exact ⟨zF,zC HB.out GE159.out⟩
            ·rw [if_neg c20] at H
             have c20b0:decide ((rd l0_1 x5_3)<1)=false:=decide_eq_false c20
             clear c20
             by_cases c22:(rd l0_1 x5_3)>2
             ·rw [if_pos c22] at H
              have c22b0:decide (2<(rd l0_1 x5_3))=true:=decide_eq_true c22
              clear c22
              obtain rfl:=Option.some.inj H
              have hcz23_1:wr.cell? ⟨gb159,1,none⟩=some (.slice A0_1 l0_1.length c0_1):=(blk_cell BK159.out 1).trans rfl
              have p161:0≤(x5_3:Int):=of_decide_eq_true zS
              have q161:x5_3<(l0_1.length:Int):=of_decide_eq_true zS
              obtain ⟨ad161,e161,hx161_0⟩:=Kd.at_int HR0_1.out x5_3 p161 q161
              cases e161
              replace hx161_0:=(HB.out.cell (World.block_lt_of_cell? w _ hx161_0)).trans hx161_0
              replace p161:=eq_true p161
              replace q161:=eq_true q161
              have p162:0≤(x5_3:Int):=of_decide_eq_true zS
              have q162:x5_3<(l0_1.length:Int):=of_decide_eq_true zS
              obtain ⟨ad162,e162,hx162_0⟩:=Kd.at_int HR0_1.out x5_3 p162 q162
              obtain rfl:ad161=ad162:=(by injection e162)
              replace hx162_0:=(HB.out.cell (World.block_lt_of_cell? w _ hx162_0)).trans hx162_0
              replace p162:=eq_true p162
              replace q162:=eq_true q162
              go_wp2
              go_ret
              exact ⟨zF,zC HB.out GE159.out⟩
             ·rw [if_neg c22] at H
              have c22b0:decide (2<(rd l0_1 x5_3))=false:=decide_eq_false c22
              clear c22
              have H':=aM H
              clear H
              have hcz24_1:wr.cell? ⟨gb159,1,none⟩=some (.slice A0_1 l0_1.length c0_1):=(blk_cell BK159.out 1).trans rfl
              have p161:0≤(x5_3:Int):=of_decide_eq_true zS
              have q161:x5_3<(l0_1.length:Int):=of_decide_eq_true zS
              obtain ⟨ad161,e161,hx161_0⟩:=Kd.at_int HR0_1.out x5_3 p161 q161
              cases e161
              replace hx161_0:=(HB.out.cell (World.block_lt_of_cell? w _ hx161_0)).trans hx161_0
              replace p161:=eq_true p161
              replace q161:=eq_true q161
              have p162:0≤(x5_3:Int):=of_decide_eq_true zS
              have q162:x5_3<(l0_1.length:Int):=of_decide_eq_true zS
              obtain ⟨ad162,e162,hx162_0⟩:=Kd.at_int HR0_1.out x5_3 p162 q162
              obtain rfl:ad161=ad162:=(by injection e162)
              replace hx162_0:=(HB.out.cell (World.block_lt_of_cell? w _ hx162_0)).trans hx162_0
              replace p162:=eq_true p162
              replace q162:=eq_true q162
              go_wp2
              go_roundg k3
              case measure=>have:=HJ2.out;have:=HJ11.out;have:=HK3.out;omega
              case rel=>exact ⟨(wrap64 (x5_3+1)),(by first | rfl | (simp;done) | (simp [*];done)),H',⟨by have:=HJ2.out;have:=HJ11.out;have:=HK3.out;omega⟩,⟨zK BK159.out⟩,⟨zC HB.out GE159.out⟩⟩
           ·rw [if_neg c19] at H
            exact absurd H (by simp)
          ·rw [if_neg c18] at H
           have c18b0:decide (x5_3<(l0_1.length:Int))=false:=decide_eq_false c18
           clear c18
           obtain rfl:=Option.some.inj H
           have hcz25_1:wr.cell? ⟨gb159,1,none⟩=some (.slice A0_1 l0_1.length c0_1):=(blk_cell BK159.out 1).trans rfl
           go_wp2
           go_ret
           exact ⟨zF,zC HB.out GE159.out⟩
    ·replace c11:=Bool.eq_false_iff.mpr c11
     subst c11
     have H1:(some 4)=some r:=by rw [if_neg (show ¬ (false=true) by decide)] at H;exact H
     clear H
     have H:=H1
     clear H1
     obtain rfl:=Option.some.inj H
     have hcz26_0:wc.cell? ⟨gb159,0,none⟩=some (.string a0_0):=(blk_cell BK159.out 0).trans rfl
     go_wp2_with (first | ((with_reducible refine gate_callee (f:=24) rfl ?_);refine goesL_ (some 22) rfl rfl Try.func24 (by kernel_rfl) rfl #[.string a0_0] rfl zA ?_;(with_reducible refine (r02_Name.calls kj2 a0_0 false _ A10.out).mono ?_);rintro e w' ⟨rfl,⟨nd,rfl⟩⟩;refine ⟨_,rfl,?_⟩))
     go_ret
     exact ⟨zF,zC HB.out GE159.out⟩
end Go.Proofs.Ytkjdblbgmomieaa.PSh
end
