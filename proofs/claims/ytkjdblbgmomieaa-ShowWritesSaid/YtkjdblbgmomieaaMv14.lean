import Derived.Test.YtkjdblbgmomieaaMv2
import Derived.Test.YtkjdblbgmomieaaMv3
import Derived.Test.YtkjdblbgmomieaaMv12
import Derived.Test.YtkjdblbgmomieaaMv13
section
namespace Go.Proofs.Ytkjdblbgmomieaa.PSh
set_option maxHeartbeats 8000000
set_option maxRecDepth 100000
open Go.RowKit Go.Proofs.YtkjdblbgmomieaaW.PrintWords Go.Proofs.YtkjdblbgmomieaaW.PrintLast Go.Proofs.YtkjdblbgmomieaaW.PrintMore Go.Proofs.Ytkjdblbgmomieaa.Zip
attribute [local go_sem] max2_int min2_int max_two min_two max_three min_three max_four min_four   -- for this text's walks alone
set_option linter.unusedVariables false
set_option linter.unusedSimpArgs false
mutual
def r07_most.j0:Nat→Int→Bool→Option (Int)
 | 0,_,_=>none
 | k+1,x3,x6=>if x6=true then (some 15) else (if x3=23 then (r07_most.j1 k x3 (x3==23)) else (if x3=21 then (r07_most.j1 k x3 (x3==21)) else (r07_most.j1 k x3 (x3==24))))
def r07_most.j1:Nat→Int→Bool→Option (Int)
 | 0,_,_=>none
 | k+1,x3,x12=>if x12=true then (some 1048576) else (if x3=29 then (some 255) else (some (-1)))
end
def r07_most.f (k:Nat) (a0:Int):Option (Int):=if a0=1 then (some 9223372036854775807) else (if a0=11 then (r07_most.j0 k a0 (a0==11)) else (if a0=12 then (r07_most.j0 k a0 (a0==12)) else (if a0=15 then (r07_most.j0 k a0 (a0==15)) else (if a0=13 then (r07_most.j0 k a0 (a0==13)) else (r07_most.j0 k a0 (a0==14))))))
theorem r07_most.mono_l:∀ k,(∀ y0 y1,LeO (r07_most.j0 k y0 y1) (r07_most.j0 (k+1) y0 y1))∧(∀ y0 y1,LeO (r07_most.j1 k y0 y1) (r07_most.j1 (k+1) y0 y1))
 | 0=>⟨fun _ _ r h=>by simp [r07_most.j0] at h,fun _ _ r h=>by simp [r07_most.j1] at h⟩
 | k+1=>by
  obtain ⟨ih0,ih1⟩:=r07_most.mono_l k
  refine ⟨?_,?_⟩
  ·intro y0 y1
   unfold r07_most.j0
   repeat' first
   | (with_reducible exact ih0 _ _)
   | (with_reducible exact ih1 _ _)
   | (with_reducible exact LeO.refl _)
   | (with_reducible exact LeO.none _)
   | (with_reducible refine LeO.ite ?_ ?_)
   | (with_reducible refine LeO.bind ?_ (fun _=>?_))
   | exact ih0 _ _
   | exact ih1 _ _
   | exact LeO.none _
   | refine LeO.ite ?_ ?_
   | refine LeO.bind ?_ (fun _=>?_)
  ·intro y0 y1
   unfold r07_most.j1
   repeat' first
   | (with_reducible exact ih0 _ _)
   | (with_reducible exact ih1 _ _)
   | (with_reducible exact LeO.refl _)
   | (with_reducible exact LeO.none _)
   | (with_reducible refine LeO.ite ?_ ?_)
   | (with_reducible refine LeO.bind ?_ (fun _=>?_))
   | exact ih0 _ _
   | exact ih1 _ _
   | exact LeO.none _
   | refine LeO.ite ?_ ?_
   | refine LeO.bind ?_ (fun _=>?_)
theorem r07_most.mono:∀ a0 k,LeO (r07_most.f k a0) (r07_most.f (k+1) a0):=by
 intro a0 k
 obtain ⟨ih0,ih1⟩:=r07_most.mono_l k
 unfold r07_most.f
 repeat' first
   | (with_reducible exact ih0 _ _)
   | (with_reducible exact ih1 _ _)
   | (with_reducible exact LeO.refl _)
   | (with_reducible exact LeO.none _)
   | (with_reducible refine LeO.ite ?_ ?_)
   | (with_reducible refine LeO.bind ?_ (fun _=>?_))
   | exact ih0 _ _
   | exact ih1 _ _
   | exact LeO.none _
   | refine LeO.ite ?_ ?_
   | refine LeO.bind ?_ (fun _=>?_)
theorem r07_most.calls (k:Nat) (a0:Int) (r:Int) (w:World) (h:r07_most.f k a0=some r):
  Calls Try.prog 52 #[.int .i64 a0] w fun e w'=>e=.returned (.int .i64 r)∧Drawn0 w w':=by
 have H:(if a0=1 then (some 9223372036854775807) else (if a0=11 then (r07_most.j0 k a0 (a0==11)) else (if a0=12 then (r07_most.j0 k a0 (a0==12)) else (if a0=15 then (r07_most.j0 k a0 (a0==15)) else (if a0=13 then (r07_most.j0 k a0 (a0==13)) else (r07_most.j0 k a0 (a0==14)))))))=some r:=h
 clear h
 by_cases c2:a0=1
 ·rw [if_pos c2] at H
  have c2b0:(a0==1)=true:=beq_iff_eq.mpr c2
  clear c2
  obtain rfl:=Option.some.inj H
  go_enter Try.func52,Try.ntmps52
  go_wp2
  go_ret
  exact ⟨by first | rfl | (simp;done) | (simp [*];done),zQ⟩
 ·rw [if_neg c2] at H
  have c2b0:(a0==1)=false:=beq_eq_false_iff_ne.mpr c2
  have HC3:=aM H
  clear H
  go_enter Try.func52,Try.ntmps52
  go_upto_if 6 with (fail)
  go_cut [6] (fun v6 wc=>∃ (kq:Nat) (x6_2:Bool),v6=.bool x6_2∧Aside0 (r07_most.j0 kq a0 x6_2=some r)∧Aside0 (kq≤k)∧Drawn0 w wc)
  case first=>
   have H:=HC3.out
   clear HC3
   by_cases c4:a0=11
   ·rw [if_pos c4] at H
    have c4b0:(a0==11)=true:=beq_iff_eq.mpr c4
    clear c4
    (first | rw [c4b0] | (simp only [i64_w,i32_w];rw [c4b0]) | skip)
    have H':=aM H
    clear H
    go_wp2
    go_meet
    case rel=>exact ⟨_,((a0==11)),(by first | rfl | (simp;done) | (simp [*];done)),H',⟨by first | omega | exact Nat.le_refl _⟩,zQ⟩
   ·rw [if_neg c4] at H
    have c4b0:(a0==11)=false:=beq_eq_false_iff_ne.mpr c4
    (first | rw [c4b0] | (simp only [i64_w,i32_w];rw [c4b0]) | skip)
    by_cases c5:a0=12
    ·rw [if_pos c5] at H
     have c5b0:(a0==12)=true:=beq_iff_eq.mpr c5
     clear c5
     have H':=aM H
     clear H
     go_wp2
     go_meet
     case rel=>exact ⟨_,((a0==12)),(by first | rfl | (simp;done) | (simp [*];done)),H',⟨by first | omega | exact Nat.le_refl _⟩,zQ⟩
    ·rw [if_neg c5] at H
     have c5b0:(a0==12)=false:=beq_eq_false_iff_ne.mpr c5
     by_cases c6:a0=15
     ·rw [if_pos c6] at H
      have c6b0:(a0==15)=true:=beq_iff_eq.mpr c6
      clear c6
      have H':=aM H
      clear H
      go_wp2
      go_meet
      case rel=>exact ⟨_,((a0==15)),(by first | rfl | (simp;done) | (simp [*];done)),H',⟨by first | omega | exact Nat.le_refl _⟩,zQ⟩
     ·rw [if_neg c6] at H
      have c6b0:(a0==15)=false:=beq_eq_false_iff_ne.mpr c6
      by_cases c7:a0=13
      ·rw [if_pos c7] at H
       have c7b0:(a0==13)=true:=beq_iff_eq.mpr c7
       clear c7
       have H':=aM H
       clear H
       go_wp2
       go_meet
       case rel=>exact ⟨_,((a0==13)),(by first | rfl | (simp;done) | (simp [*];done)),H',⟨by first | omega | exact Nat.le_refl _⟩,zQ⟩
      ·rw [if_neg c7] at H
       have c7b0:(a0==13)=false:=beq_eq_false_iff_ne.mpr c7
       have H':=aM H
       clear H
       go_wp2
       go_meet
       case rel=>exact ⟨_,((a0==14)),(by first | rfl | (simp;done) | (simp [*];done)),H',⟨by first | omega | exact Nat.le_refl _⟩,zQ⟩
  case rest=>
   clear HC3 c2 c2b0
   obtain ⟨kq,x6_2,rfl,HA,HJ2,⟨mc2,rfl⟩⟩:=hcut
   cases kq with
   | zero=>exact absurd HA.out (by simp [r07_most.j0])
   | succ kj2=>
    have H:=HA.out
    clear HA
    simp only [r07_most.j0] at H
    by_cases c8:x6_2=true
    ·subst c8
     have H1:(some 15)=some r:=by rw [if_pos rfl] at H;exact H
     clear H
     have H:=H1
     clear H1
     obtain rfl:=Option.some.inj H
     go_wp2
     go_ret
     exact ⟨by first | rfl | (simp;done) | (simp [*];done),zQ⟩
    ·replace c8:=Bool.eq_false_iff.mpr c8
     subst c8
     have H1:(if a0=23 then (r07_most.j1 kj2 a0 (a0==23)) else (if a0=21 then (r07_most.j1 kj2 a0 (a0==21)) else (r07_most.j1 kj2 a0 (a0==24))))=some r:=by rw [if_neg (show ¬ (false=true) by decide)] at H;exact H
     clear H
     have H:=H1
     clear H1
     have HC9:=aM H
     clear H
     go_upto_if 12 with (fail)
     go_cut [12] (fun v12 wc=>∃ (kq:Nat) (x12_8:Bool),v12=.bool x12_8∧Aside0 (r07_most.j1 kq a0 x12_8=some r)∧Aside0 (kq≤kj2)∧Drawn0 w wc)
     case first=>
      have H:=HC9.out
      clear HC9
      by_cases c10:a0=23
      ·rw [if_pos c10] at H
       have c10b0:(a0==23)=true:=beq_iff_eq.mpr c10
       clear c10
       (first | rw [c10b0] | (simp only [i64_w,i32_w];rw [c10b0]) | skip)
       have H':=aM H
       clear H
       go_wp2
       go_meet
       case rel=>exact ⟨_,((a0==23)),(by first | rfl | (simp;done) | (simp [*];done)),H',⟨by have:=HJ2.out;first | omega | exact Nat.le_refl _⟩,zQ⟩
      ·rw [if_neg c10] at H
       have c10b0:(a0==23)=false:=beq_eq_false_iff_ne.mpr c10
       (first | rw [c10b0] | (simp only [i64_w,i32_w];rw [c10b0]) | skip)
       by_cases c11:a0=21
       ·rw [if_pos c11] at H
        have c11b0:(a0==21)=true:=beq_iff_eq.mpr c11
        clear c11
        have H':=aM H
        clear H
        go_wp2
        go_meet
        case rel=>exact ⟨_,((a0==21)),(by first | rfl | (simp;done) | (simp [*];done)),H',⟨by have:=HJ2.out;first | omega | exact Nat.le_refl _⟩,zQ⟩
       ·rw [if_neg c11] at H
        have c11b0:(a0==21)=false:=beq_eq_false_iff_ne.mpr c11
        have H':=aM H
        clear H
        go_wp2
        go_meet
        case rel=>exact ⟨_,((a0==24)),(by first | rfl | (simp;done) | (simp [*];done)),H',⟨by have:=HJ2.out;first | omega | exact Nat.le_refl _⟩,zQ⟩
     case rest=>
      clear HC9
      obtain ⟨kq,x12_8,rfl,HA,HJ8,⟨mc8,rfl⟩⟩:=hcut
      cases kq with
      | zero=>exact absurd HA.out (by simp [r07_most.j1])
      | succ kj8=>
       have H:=HA.out
       clear HA
       simp only [r07_most.j1] at H
       by_cases c12:x12_8=true
       ·subst c12
        have H1:(some 1048576)=some r:=by rw [if_pos rfl] at H;exact H
        clear H
        have H:=H1
        clear H1
        obtain rfl:=Option.some.inj H
        go_wp2
        go_ret
        exact ⟨by first | rfl | (simp;done) | (simp [*];done),zQ⟩
       ·replace c12:=Bool.eq_false_iff.mpr c12
        subst c12
        have H1:(if a0=29 then (some 255) else (some (-1)))=some r:=by rw [if_neg (show ¬ (false=true) by decide)] at H;exact H
        clear H
        have H:=H1
        clear H1
        by_cases c13:a0=29
        ·rw [if_pos c13] at H
         have c13b0:(a0==29)=true:=beq_iff_eq.mpr c13
         clear c13
         obtain rfl:=Option.some.inj H
         go_wp2
         go_ret
         exact ⟨by first | rfl | (simp;done) | (simp [*];done),zQ⟩
        ·rw [if_neg c13] at H
         have c13b0:(a0==29)=false:=beq_eq_false_iff_ne.mpr c13
         obtain rfl:=Option.some.inj H
         go_wp2
         go_ret
         exact ⟨by first | rfl | (simp;done) | (simp [*];done),zQ⟩
def r03_power.l0:Nat→Int→Int→Int→Option (Int)
 | 0,_,_,_=>none
 | k+1,x0,x3,x4=>if x4<x0 then (r03_power.l0 k x0 (wrap64 (x3 * 2)) (wrap64 (x4+1))) else (some x3)
def r03_power.f (k:Nat) (a0:Int):Option (Int):=r03_power.l0 k a0 1 0
theorem r03_power.calls (k:Nat) (a0:Int) (r:Int) (w:World) (h:r03_power.f k a0=some r):
  Calls Try.prog 73 #[.int .i64 a0] w fun e w'=>e=.returned (.int .i64 r)∧Drawn0 w w':=by
 have H:(r03_power.l0 k a0 1 0)=some r:=h
 clear h
 have H':=aM H
 clear H
 go_enter Try.func73,Try.ntmps73
 go_wp2
 go_loopg [3,4] k (fun kq v3 v4 w'=>∃ (x3_1:Int) (x4_1:Int),v3=.int .i64 x3_1∧v4=.int .i64 x4_1∧Aside0 (r03_power.l0 kq a0 x3_1 x4_1=some r)∧Aside0 (kq≤k)∧Drawn0 w w')
 case atStart=>exact ⟨(1),(0),(by first | rfl | (simp;done) | (simp [*];done)),(by first | rfl | (simp;done) | (simp [*];done)),H',⟨Nat.le_refl _⟩,zQ⟩
 case round=>
  clear H'
  obtain ⟨x3_1,x4_1,rfl,rfl,HA,HK1,⟨m1,rfl⟩⟩:=hrel
  cases gk with
  | zero=>exact absurd HA.out (by simp [r03_power.l0])
  | succ k1=>
   have H:=HA.out
   clear HA
   simp only [r03_power.l0] at H
   by_cases c2:x4_1<a0
   ·rw [if_pos c2] at H
    have c2b0:decide (x4_1<a0)=true:=decide_eq_true c2
    clear c2
    have H':=aM H
    clear H
    go_wp2
    go_roundg k1
    case measure=>have:=HK1.out;omega
    case rel=>exact ⟨(wrap64 (x3_1 * 2)),(wrap64 (x4_1+1)),(by first | rfl | (simp;done) | (simp [*];done)),(by first | rfl | (simp;done) | (simp [*];done)),H',⟨by have:=HK1.out;omega⟩,zQ⟩
   ·rw [if_neg c2] at H
    have c2b0:decide (x4_1<a0)=false:=decide_eq_false c2
    clear c2
    obtain rfl:=Option.some.inj H
    go_wp2
    go_ret
    exact ⟨by first | rfl | (simp;done) | (simp [*];done),zQ⟩
mutual
def r03_Parse.j0:Nat→ByteArray→Bool→Option (Int × Int × Int)
 | 0,_,_=>none
 | k+1,x0,x15=>if x15=true then (some (0,0,16)) else (r03_Parse.l0 k x0 0 0)
def r03_Parse.l0:Nat→ByteArray→Int→Int→Option (Int × Int × Int)
 | 0,_,_,_=>none
 | k+1,x0,x4,x5=>if x5<(x0.size:Int) then (if 0≤x5 then (if (bt x0 x5)=105 then (r03_Parse.j2 k x0 x4 x5 false) else (r03_Parse.j2 k x0 x4 x5 ((bt x0 x5) !=112))) else (none)) else (some ((x0.size:Int),x4,0))
def r03_Parse.j2:Nat→ByteArray→Int→Int→Bool→Option (Int × Int × Int)
 | 0,_,_,_,_=>none
 | k+1,x0,x4,x5,x32=>if x32=true then (some (0,0,16)) else (if 0≤x5 then (if x5<(x0.size:Int) then (if (bt x0 x5)=112 then ((r03_power.f k x5).bind fun t144=>(r03_Parse.l0 k x0 (wrap64 (x4+t144)) (wrap64 (x5+1)))) else (r03_Parse.l0 k x0 x4 (wrap64 (x5+1)))) else (none)) else (none))
end
def r03_Parse.f (k:Nat) (a0:ByteArray):Option (Int × Int × Int):=if a0.toList=([46]:List UInt8) then (some (0,0,0)) else (if a0.toList=([]:List UInt8) then (r03_Parse.j0 k a0 true) else (r03_Parse.j0 k a0 (decide ((a0.size:Int)>16))))
theorem r03_Parse.calls (k:Nat) (a0:ByteArray) (r1:Int) (r2:Int) (r3:Int) (w:World) (h:r03_Parse.f k a0=some (r1,r2,r3)):
  Calls Try.prog 53 #[.string a0] w fun e w'=>e=.returned (.tuple #[.agg #[.int .i64 r1,.int .i64 r2],.int .i64 r3])∧Below w.heap.size w w':=by
 have HB:=aM (Below.refl w.heap.size w)
 have H:(if a0.toList=([46]:List UInt8) then (some (0,0,0)) else (if a0.toList=([]:List UInt8) then (r03_Parse.j0 k a0 true) else (r03_Parse.j0 k a0 (decide ((a0.size:Int)>16)))))=some (r1,r2,r3):=h
 clear h
 by_cases c2:a0.toList=([46]:List UInt8)
 ·rw [if_pos c2] at H
  have c2b0:(a0.toList==([46]:List UInt8))=true:=beq_iff_eq.mpr c2
  clear c2
  simp only [Option.some.injEq,Prod.mk.injEq] at H
  obtain ⟨rfl,rfl,rfl⟩:=H
  go_enter Try.func53,Try.ntmps53
  go_wp2_with (first | ((with_reducible refine gate_dst (N:=2) rfl ?_);(try (refine gate_guard (by rfl) ?_;dsimp only));refine box_event ?hg (N:=2) ?hd (cs:=#[.int .i64 0,.int .i64 0]) (t:=73) ?hr ?_;(case hd=>rfl);(case hg=>rfl);(case hr=>first | (go_simp;done) | (go_simp;rfl));intro gb143 hg w3 hbox hb;have n0_:=aM (below_step (zB HB.out) hb);have n1_:=aM (hbox);have n2_:=aM ((by rw [hg];exact (below_size (zB HB.out)):w.heap.size≤gb143));have n3_:=aM ((by rw [hg];exact (below_size (zB HB.out)):w.heap.size≤gb143));clear HB;have HB:=n0_;have BK143:=n1_;have GE143:=n3_;clear n0_ n1_ n2_ n3_;clear hb hbox hg;have hcz4_0:w3.cell? ⟨gb143,0,none⟩=some (.int .i64 0):=(blk_cell BK143.out 0).trans rfl;have hcz4_1:w3.cell? ⟨gb143,1,none⟩=some (.int .i64 0):=(blk_cell BK143.out 1).trans rfl;have hfz4_0:=blk_frozen BK143.out 0;have hfz4_1:=blk_frozen BK143.out 1))
  refine bodyPost_ret (results_ct rfl _ _ gb143 73 #[.int .i64 0,.int .i64 0] (0,0) _ rfl (by (with_reducible repeat (first | refine blk_drewN ?_ _ | refine blk_drew ?_ | refine blk_alloc ?_ _));refine blk_put (cs:=#[.int .i64 0,.int .i64 0]) ?_ 1 _ rfl;(with_reducible repeat (first | refine blk_drewN ?_ _ | refine blk_drew ?_ | refine blk_alloc ?_ _));refine blk_put (cs:=#[.int .i64 0,.int .i64 0]) ?_ 0 _ rfl;(with_reducible repeat (first | refine blk_drewN ?_ _ | refine blk_drew ?_ | refine blk_alloc ?_ _));exact BK143.out) Try.underlying73 rfl (by kernel_rfl)) rfl ?_
  exact ⟨zF,zC HB.out GE143.out⟩
 ·rw [if_neg c2] at H
  have c2b0:(a0.toList==([46]:List UInt8))=false:=beq_eq_false_iff_ne.mpr c2
  have HC5:=aM H
  clear H
  go_enter Try.func53,Try.ntmps53
  go_upto_region 3 with (first | ((with_reducible refine gate_dst (N:=2) rfl ?_);(try (refine gate_guard (by rfl) ?_;dsimp only));refine box_event ?hg (N:=2) ?hd (cs:=#[.int .i64 0,.int .i64 0]) (t:=73) ?hr ?_;(case hd=>rfl);(case hg=>rfl);(case hr=>first | (go_simp;done) | (go_simp;rfl));intro gb143 hg w6 hbox hb;have n0_:=aM (below_step (zB HB.out) hb);have n1_:=aM (hbox);have n2_:=aM ((by rw [hg];exact (below_size (zB HB.out)):w.heap.size≤gb143));have n3_:=aM ((by rw [hg];exact (below_size (zB HB.out)):w.heap.size≤gb143));clear HB;have HB:=n0_;have BK143:=n1_;have GE143:=n3_;clear n0_ n1_ n2_ n3_;clear hb hbox hg))
  (try simp only [Act.put,qA,qB,qC])
  go_cut [15] (fun v15 wc=>∃ (kq:Nat) (x15_4:Bool),v15=.bool x15_4∧Aside0 (r03_Parse.j0 kq a0 x15_4=some (r1,r2,r3))∧Aside0 (kq≤k)∧Aside0 (wc.heap[gb143]?=some (.cells #[.int .i64 0,.int .i64 0] 73 (0,0)))∧Aside0 (Below w.heap.size w wc))
  case first=>
   have H:=HC5.out
   clear HC5
   by_cases c7:a0.toList=([]:List UInt8)
   ·rw [if_pos c7] at H
    have c7b0:(a0.toList==([]:List UInt8))=true:=beq_iff_eq.mpr c7
    clear c7
    (first | rw [c7b0] | (simp only [i64_w,i32_w];rw [c7b0]) | skip)
    have H':=aM H
    clear H
    go_wp2
    go_meet
    case rel=>exact ⟨_,(true),(by first | rfl | (simp;done) | (simp [*];done)),H',⟨by first | omega | exact Nat.le_refl _⟩,⟨zK BK143.out⟩,⟨zC HB.out GE143.out⟩⟩
   ·rw [if_neg c7] at H
    have c7b0:(a0.toList==([]:List UInt8))=false:=beq_eq_false_iff_ne.mpr c7
    (first | rw [c7b0] | (simp only [i64_w,i32_w];rw [c7b0]) | skip)
    have H':=aM H
    clear H
    go_wp2
    go_meet
    case rel=>exact ⟨_,(decide ((a0.size:Int)>16)),(by first | rfl | (simp;done) | (simp [*];done)),H',⟨by first | omega | exact Nat.le_refl _⟩,⟨zK BK143.out⟩,⟨zC HB.out GE143.out⟩⟩
  case rest=>
   clear HC5 c2 c2b0
   obtain ⟨kq,x15_4,rfl,HA,HJ4,BK143,HB⟩:=hcut
   cases kq with
   | zero=>exact absurd HA.out (by simp [r03_Parse.j0])
   | succ kj4=>
    have H:=HA.out
    clear HA
    simp only [r03_Parse.j0] at H
    by_cases c8:x15_4=true
    ·subst c8
     have H1:(some (0,0,16))=some (r1,r2,r3):=by rw [if_pos rfl] at H;exact H
     clear H
     have H:=H1
     clear H1
     simp only [Option.some.injEq,Prod.mk.injEq] at H
     obtain ⟨rfl,rfl,rfl⟩:=H
     have hcz9_0:wc.cell? ⟨gb143,0,none⟩=some (.int .i64 0):=(blk_cell BK143.out 0).trans rfl
     have hcz9_1:wc.cell? ⟨gb143,1,none⟩=some (.int .i64 0):=(blk_cell BK143.out 1).trans rfl
     have hfz9_0:=blk_frozen BK143.out 0
     have hfz9_1:=blk_frozen BK143.out 1
     go_wp2
     refine bodyPost_ret (results_ct rfl _ _ gb143 73 #[.int .i64 0,.int .i64 0] (0,0) _ rfl (by (with_reducible repeat (first | refine blk_drewN ?_ _ | refine blk_drew ?_ | refine blk_alloc ?_ _));refine blk_put (cs:=#[.int .i64 0,.int .i64 0]) ?_ 1 _ rfl;(with_reducible repeat (first | refine blk_drewN ?_ _ | refine blk_drew ?_ | refine blk_alloc ?_ _));refine blk_put (cs:=#[.int .i64 0,.int .i64 0]) ?_ 0 _ rfl;(with_reducible repeat (first | refine blk_drewN ?_ _ | refine blk_drew ?_ | refine blk_alloc ?_ _));exact BK143.out) Try.underlying73 rfl (by kernel_rfl)) rfl ?_
     exact ⟨zF,zC HB.out GE143.out⟩
    ·replace c8:=Bool.eq_false_iff.mpr c8
     subst c8
     have H1:(r03_Parse.l0 kj4 a0 0 0)=some (r1,r2,r3):=by rw [if_neg (show ¬ (false=true) by decide)] at H;exact H
     clear H
     have H:=H1
     clear H1
     have H':=aM H
     clear H
     go_wp2
     go_loopg [4,5] kj4 (fun kq v4 v5 w'=>∃ (x4_2:Int) (x5_2:Int) (x144000_2:Int) (x144001_2:Int),v4=.int .i64 x4_2∧v5=.int .i64 x5_2∧Aside0 (r03_Parse.l0 kq a0 x4_2 x5_2=some (r1,r2,r3))∧Aside0 (kq≤kj4)∧Aside0 (w'.heap[gb143]?=some (.cells #[.int .i64 x144000_2,.int .i64 x144001_2] 73 (0,0)))∧Aside0 (Below w.heap.size w w'))
     case atStart=>exact ⟨(0),(0),(0),(0),(by first | rfl | (simp;done) | (simp [*];done)),(by first | rfl | (simp;done) | (simp [*];done)),H',⟨Nat.le_refl _⟩,⟨zK BK143.out⟩,⟨zC HB.out GE143.out⟩⟩
     case round=>
      clear H'
      obtain ⟨x4_2,x5_2,x144000_2,x144001_2,rfl,rfl,HA,HK2,BK143,HB⟩:=hrel
      cases gk with
      | zero=>exact absurd HA.out (by simp [r03_Parse.l0])
      | succ k2=>
       have H:=HA.out
       clear HA
       simp only [r03_Parse.l0] at H
       by_cases c10:x5_2<(a0.size:Int)
       ·rw [if_pos c10] at H
        have c10b0:decide (x5_2<(a0.size:Int))=true:=decide_eq_true c10
        clear c10
        have HC11:=aM H
        clear H
        go_upto_region 9 with (fail)
        go_cut [32] (fun v32 wc=>∃ (kq:Nat) (x32_10:Bool),v32=.bool x32_10∧Aside0 (r03_Parse.j2 kq a0 x4_2 x5_2 x32_10=some (r1,r2,r3))∧Aside0 (kq≤k2)∧Aside0 (wc.heap[gb143]?=some (.cells #[.int .i64 x144000_2,.int .i64 x144001_2] 73 (0,0)))∧Aside0 (Below w.heap.size w wc))
        case first=>
         have H:=HC11.out
         clear HC11
         by_cases c12:0≤x5_2
         ·rw [if_pos c12] at H
          have c12b0:decide (0≤x5_2)=true:=decide_eq_true c12
          clear c12
          (first | rw [c12b0] | (simp only [i64_w,i32_w];rw [c12b0]) | skip)
          by_cases c14:(bt a0 x5_2)=105
          ·rw [if_pos c14] at H
           have c14b1:((bt a0 x5_2) !=105)=false:=bne_eq_false_iff_eq.mpr c14
           clear c14
           have H':=aM H
           clear H
           have p13:0≤(x5_2:Int):=of_decide_eq_true zS
           have q13:x5_2<(a0.size:Int):=of_decide_eq_true zS
           have hx13:=bt_at a0 x5_2
           replace p13:=eq_true p13
           replace q13:=eq_true q13
           go_wp2
           go_meet
           case rel=>exact ⟨_,(false),(by first | rfl | (simp;done) | (simp [*];done)),H',⟨by have:=HJ4.out;have:=HK2.out;first | omega | exact Nat.le_refl _⟩,⟨zK BK143.out⟩,⟨zC HB.out GE143.out⟩⟩
          ·rw [if_neg c14] at H
           have c14b1:((bt a0 x5_2) !=105)=true:=bne_iff_ne.mpr c14
           have H':=aM H
           clear H
           have p13:0≤(x5_2:Int):=of_decide_eq_true zS
           have q13:x5_2<(a0.size:Int):=of_decide_eq_true zS
           have hx13:=bt_at a0 x5_2
           replace p13:=eq_true p13
           replace q13:=eq_true q13
           have p15:0≤(x5_2:Int):=of_decide_eq_true zS
           have q15:x5_2<(a0.size:Int):=of_decide_eq_true zS
           replace p15:=eq_true p15
           replace q15:=eq_true q15
           go_wp2
           go_meet
           case rel=>exact ⟨_,(((bt a0 x5_2) !=112)),(by first | rfl | (simp;done) | (simp [*];done)),H',⟨by have:=HJ4.out;have:=HK2.out;first | omega | exact Nat.le_refl _⟩,⟨zK BK143.out⟩,⟨zC HB.out GE143.out⟩⟩
         ·rw [if_neg c12] at H
          exact absurd H (by simp)
        case rest=>
         clear HC11 c10b0
         obtain ⟨kq,x32_10,rfl,HA,HJ10,BK143,HB⟩:=hcut
         cases kq with
         | zero=>exact absurd HA.out (by simp [r03_Parse.j2])
         | succ kj10=>
          have H:=HA.out
          clear HA
          simp only [r03_Parse.j2] at H
          by_cases c16:x32_10=true
          ·subst c16
           have H1:(some (0,0,16))=some (r1,r2,r3):=by rw [if_pos rfl] at H;exact H
           clear H
           have H:=H1
           clear H1
           simp only [Option.some.injEq,Prod.mk.injEq] at H
           obtain ⟨rfl,rfl,rfl⟩:=H
           have hcz17_0:wc.cell? ⟨gb143,0,none⟩=some (.int .i64 x144000_2):=(blk_cell BK143.out 0).trans rfl
           have hcz17_1:wc.cell? ⟨gb143,1,none⟩=some (.int .i64 x144001_2):=(blk_cell BK143.out 1).trans rfl
           have hfz17_0:=blk_frozen BK143.out 0
           have hfz17_1:=blk_frozen BK143.out 1
           go_wp2
           refine bodyPost_ret (results_ct rfl _ _ gb143 73 #[.int .i64 0,.int .i64 0] (0,0) _ rfl (by (with_reducible repeat (first | refine blk_drewN ?_ _ | refine blk_drew ?_ | refine blk_alloc ?_ _));refine blk_put (cs:=#[.int .i64 0,.int .i64 x144001_2]) ?_ 1 _ rfl;(with_reducible repeat (first | refine blk_drewN ?_ _ | refine blk_drew ?_ | refine blk_alloc ?_ _));refine blk_put (cs:=#[.int .i64 x144000_2,.int .i64 x144001_2]) ?_ 0 _ rfl;(with_reducible repeat (first | refine blk_drewN ?_ _ | refine blk_drew ?_ | refine blk_alloc ?_ _));exact BK143.out) Try.underlying73 rfl (by kernel_rfl)) rfl ?_
           exact ⟨zF,zC HB.out GE143.out⟩
          ·replace c16:=Bool.eq_false_iff.mpr c16
           subst c16
           have H1:(if 0≤x5_2 then (if x5_2<(a0.size:Int) then (if (bt a0 x5_2)=112 then ((r03_power.f kj10 x5_2).bind fun t144=>(r03_Parse.l0 kj10 a0 (wrap64 (x4_2+t144)) (wrap64 (x5_2+1)))) else (r03_Parse.l0 kj10 a0 x4_2 (wrap64 (x5_2+1)))) else (none)) else (none))=some (r1,r2,r3):=by rw [if_neg (show ¬ (false=true) by decide)] at H;exact H
           clear H
           have H:=H1
           clear H1
           by_cases c18:0≤x5_2
           ·rw [if_pos c18] at H
            have c18b0:decide (0≤x5_2)=true:=decide_eq_true c18
            clear c18
            by_cases c19:x5_2<(a0.size:Int)
            ·rw [if_pos c19] at H
             have c19b0:decide (x5_2<(a0.size:Int))=true:=decide_eq_true c19
             clear c19
             by_cases c21:(bt a0 x5_2)=112
             ·rw [if_pos c21] at H
              have c21b0:((bt a0 x5_2)==112)=true:=beq_iff_eq.mpr c21
              clear c21
              replace H:=Option.bind_eq_some_iff.mp H
              obtain ⟨t144,A220,H⟩:=H
              have A22:=aM A220
              clear A220
              have H':=aM H
              clear H
              have p20:0≤(x5_2:Int):=of_decide_eq_true zS
              have q20:x5_2<(a0.size:Int):=of_decide_eq_true zS
              have hx20:=bt_at a0 x5_2
              replace p20:=eq_true p20
              replace q20:=eq_true q20
              go_wp2_with (first | ((with_reducible refine gate_callee (f:=73) rfl ?_);refine goesL_ (some 40) rfl rfl Try.func73 (by kernel_rfl) rfl #[.int .i64 x5_2] rfl zA ?_;(with_reducible refine (r03_power.calls kj10 x5_2 t144 _ A22.out).mono ?_);rintro e w' ⟨rfl,⟨nd,rfl⟩⟩;refine ⟨_,rfl,?_⟩))
              go_roundg kj10
              case measure=>have:=HJ4.out;have:=HK2.out;have:=HJ10.out;omega
              case rel=>exact ⟨(wrap64 (x4_2+t144)),(wrap64 (x5_2+1)),(x144000_2),(x144001_2),(by first | rfl | (simp;done) | (simp [*];done)),(by first | rfl | (simp;done) | (simp [*];done)),H',⟨by have:=HJ4.out;have:=HK2.out;have:=HJ10.out;omega⟩,⟨zK BK143.out⟩,⟨zC HB.out GE143.out⟩⟩
             ·rw [if_neg c21] at H
              have c21b0:((bt a0 x5_2)==112)=false:=beq_eq_false_iff_ne.mpr c21
              have H':=aM H
              clear H
              have p20:0≤(x5_2:Int):=of_decide_eq_true zS
              have q20:x5_2<(a0.size:Int):=of_decide_eq_true zS
              have hx20:=bt_at a0 x5_2
              replace p20:=eq_true p20
              replace q20:=eq_true q20
              go_wp2
              go_roundg kj10
              case measure=>have:=HJ4.out;have:=HK2.out;have:=HJ10.out;omega
              case rel=>exact ⟨(x4_2),(wrap64 (x5_2+1)),(x144000_2),(x144001_2),(by first | rfl | (simp;done) | (simp [*];done)),(by first | rfl | (simp;done) | (simp [*];done)),H',⟨by have:=HJ4.out;have:=HK2.out;have:=HJ10.out;omega⟩,⟨zK BK143.out⟩,⟨zC HB.out GE143.out⟩⟩
            ·rw [if_neg c19] at H
             exact absurd H (by simp)
           ·rw [if_neg c18] at H
            exact absurd H (by simp)
       ·rw [if_neg c10] at H
        have c10b0:decide (x5_2<(a0.size:Int))=false:=decide_eq_false c10
        clear c10
        simp only [Option.some.injEq,Prod.mk.injEq] at H
        obtain ⟨rfl,rfl,rfl⟩:=H
        have hcz23_0:wr.cell? ⟨gb143,0,none⟩=some (.int .i64 x144000_2):=(blk_cell BK143.out 0).trans rfl
        have hcz23_1:wr.cell? ⟨gb143,1,none⟩=some (.int .i64 x144001_2):=(blk_cell BK143.out 1).trans rfl
        have hfz23_0:=blk_frozen BK143.out 0
        have hfz23_1:=blk_frozen BK143.out 1
        go_wp2
        refine bodyPost_ret (results_ct rfl _ _ gb143 73 #[.int .i64 (a0.size:Int),.int .i64 x4_2] (0,0) _ rfl (by (with_reducible repeat (first | refine blk_drewN ?_ _ | refine blk_drew ?_ | refine blk_alloc ?_ _));refine blk_put (cs:=#[.int .i64 (a0.size:Int),.int .i64 x144001_2]) ?_ 1 _ rfl;(with_reducible repeat (first | refine blk_drewN ?_ _ | refine blk_drew ?_ | refine blk_alloc ?_ _));refine blk_put (cs:=#[.int .i64 x144000_2,.int .i64 x144001_2]) ?_ 0 _ rfl;(with_reducible repeat (first | refine blk_drewN ?_ _ | refine blk_drew ?_ | refine blk_alloc ?_ _));exact BK143.out) Try.underlying73 rfl (by kernel_rfl)) rfl ?_
        exact ⟨zF,zC HB.out GE143.out⟩
end Go.Proofs.Ytkjdblbgmomieaa.PSh
end
section
namespace Go.Proofs.Ytkjdblbgmomieaa.PSh
set_option maxHeartbeats 8000000
set_option maxRecDepth 100000
open Go.RowKit Go.Proofs.YtkjdblbgmomieaaW.PrintWords Go.Proofs.YtkjdblbgmomieaaW.PrintLast Go.Proofs.YtkjdblbgmomieaaW.PrintMore Go.Proofs.Ytkjdblbgmomieaa.Str
set_option linter.unusedVariables false
set_option linter.unusedSimpArgs false
def r06_Reader_operands.f (k:Nat) (tl:List (S101)) (s1 s2 s3 s4 s5:Int) (op n:Int) (nm:ByteArray):Option (Int × ByteArray × List Int × List Int × Int × Int × Int × Int × Int):=
  if op=1 then (r06_Reader_number.f k tl s1 s2 s3 s4 s5 (-9223372036854775808) 9223372036854775807).bind fun y=>some (y.1,nm,[],[],y.2.1,y.2.2.1,y.2.2.2.1,y.2.2.2.2.1,y.2.2.2.2.2)
  else if op=29 then (r06_Reader_number.f k tl s1 s2 s3 s4 s5 0 255).bind fun y=>some (y.1,nm,[],[],y.2.1,y.2.2.1,y.2.2.2.1,y.2.2.2.2.1,y.2.2.2.2.2)
  else if op=10 then (r06_Reader_peek.f tl s1 s2 s3 s4 s5 0).bind fun p=>(r03_Parse.f k p.1).bind fun q=>if q.2.2=0 then some (n,p.1,[],[],wrap64 (p.2.1+1),p.2.2.1,p.2.2.2.1,p.2.2.2.2.1,p.2.2.2.2.2) else (r06_Reader_fail.f tl p.2.1 p.2.2.1 p.2.2.2.1 p.2.2.2.2.1 p.2.2.2.2.2 q.2.2).bind fun z=>some (n,nm,[],[],z.1,z.2.1,z.2.2.1,z.2.2.2.1,z.2.2.2.2)
  else if op=20 then (r06_Reader_phi.f k tl s1 s2 s3 s4 s5).bind fun y=>some (n,nm,y.1,y.2.1,y.2.2.1,y.2.2.2.1,y.2.2.2.2.1,y.2.2.2.2.2.1,y.2.2.2.2.2.2)
  else if op=21 then (r06_Reader_call.f k tl s1 s2 s3 s4 s5 n).bind fun y=>some (y.1,y.2.1,y.2.2.1,[],y.2.2.2.1,y.2.2.2.2.1,y.2.2.2.2.2.1,y.2.2.2.2.2.2.1,y.2.2.2.2.2.2.2)
  else if op=28 then (r06_Reader_taken.f tl s1 s2 s3 s4 s5).bind fun c=>if c.1=true then (r06_Reader_rest.f k tl c.2.1 c.2.2.1 c.2.2.2.1 c.2.2.2.2.1 c.2.2.2.2.2 n (⟨#[118]⟩:ByteArray)).bind fun y=>some (y.1,nm,y.2.1,y.2.2.1,y.2.2.2.1,y.2.2.2.2.1,y.2.2.2.2.2.1,y.2.2.2.2.2.2.1,y.2.2.2.2.2.2.2) else some (n,nm,[],[],c.2.1,c.2.2.1,c.2.2.2.1,c.2.2.2.2.1,c.2.2.2.2.2)
  else (r06_letters.f k op).bind fun l=>(r06_Reader_rest.f k tl s1 s2 s3 s4 s5 n l).bind fun y=>some (y.1,nm,y.2.1,y.2.2.1,y.2.2.2.1,y.2.2.2.2.1,y.2.2.2.2.2.1,y.2.2.2.2.2.2.1,y.2.2.2.2.2.2.2)
theorem r06_Reader_operands.calls (k g:Nat) (tl:List (S101)) (s1 s2 s3 s4 s5:Int) (op id n ty:Int) (nm:ByteArray) (at_:Int) (rn:Int) (rnm:ByteArray) (ras rts:List Int) (r1 r2 r3 r4 r5:Int) (w0 w:World) (hI:IsS89 w0 w g tl s1 s2 s3 s4 s5) (hB:Below w0.heap.size w0 w) (h:r06_Reader_operands.f k tl s1 s2 s3 s4 s5 op n nm=some (rn,rnm,ras,rts,r1,r2,r3,r4,r5)):
    Calls Try.prog 103 #[.pointer (some ⟨g,0,none⟩),.agg #[.int .i64 op,.int .i64 id,.int .i64 n,.int .i64 ty,.slice none 0 0,.slice none 0 0,.string nm,.int .i64 at_]] w fun e w'=>∃ va vt:Value,e=.returned (.agg #[.int .i64 op,.int .i64 id,.int .i64 rn,.int .i64 ty,va,vt,.string rnm,.int .i64 at_])∧TwoR w' w.heap.size va vt ras rts∧IsS89 w0 w' g tl r1 r2 r3 r4 r5∧Below w0.heap.size w0 w'∧KeepBut w w' g none:=by
  have hu39:=Try.underlying39
  have hu73:=Try.underlying73
  unfold r06_Reader_operands.f at h
  have HF:=aM h
  clear h
  have HI:=aM hI
  have HB:=aM hB
  have HL:=aM hI.lt
  clear hI hB
  go_enter Try.func103,Try.ntmps103
  have hy:=blk_alloc (blk_new w (.cells #[.int .i64 op,.int .i64 id,.int .i64 n,.int .i64 ty,.slice none 0 0,.slice none 0 0,.string nm,.int .i64 at_] 39)) (.cells #[.int .i64 0,.int .i64 0,.int .i64 0,.int .i64 0,.slice none 0 0,.slice none 0 0,.string ⟨#[]⟩,.int .i64 0] 39)
  have hz:=blk_new (w.alloc (.cells #[.int .i64 op,.int .i64 id,.int .i64 n,.int .i64 ty,.slice none 0 0,.slice none 0 0,.string nm,.int .i64 at_] 39)) (.cells #[.int .i64 0,.int .i64 0,.int .i64 0,.int .i64 0,.slice none 0 0,.slice none 0 0,.string ⟨#[]⟩,.int .i64 0] 39)
  have hs:(w.alloc (.cells #[.int .i64 op,.int .i64 id,.int .i64 n,.int .i64 ty,.slice none 0 0,.slice none 0 0,.string nm,.int .i64 at_] 39)).heap.size=w.heap.size+1:=by simp
  rw [hs] at hz
  have hi0:=(HI.out.alloc (.cells #[.int .i64 op,.int .i64 id,.int .i64 n,.int .i64 ty,.slice none 0 0,.slice none 0 0,.string nm,.int .i64 at_] 39)).alloc (.cells #[.int .i64 0,.int .i64 0,.int .i64 0,.int .i64 0,.slice none 0 0,.slice none 0 0,.string ⟨#[]⟩,.int .i64 0] 39)
  have hb0:=below_alloc (below_alloc HB.out (.cells #[.int .i64 op,.int .i64 id,.int .i64 n,.int .i64 ty,.slice none 0 0,.slice none 0 0,.string nm,.int .i64 at_] 39)) (.cells #[.int .i64 0,.int .i64 0,.int .i64 0,.int .i64 0,.slice none 0 0,.slice none 0 0,.string ⟨#[]⟩,.int .i64 0] 39)
  have hk0:=keep_alloc (keep_alloc (g:=g) (KeepBut.refl w g none) (.cells #[.int .i64 op,.int .i64 id,.int .i64 n,.int .i64 ty,.slice none 0 0,.slice none 0 0,.string nm,.int .i64 at_] 39)) (.cells #[.int .i64 0,.int .i64 0,.int .i64 0,.int .i64 0,.slice none 0 0,.slice none 0 0,.string ⟨#[]⟩,.int .i64 0] 39)
  clear hs
  go_upto_region 1 with (fail)
  generalize (w.alloc (.cells #[.int .i64 op,.int .i64 id,.int .i64 n,.int .i64 ty,.slice none 0 0,.slice none 0 0,.string nm,.int .i64 at_] 39)).alloc (.cells #[.int .i64 0,.int .i64 0,.int .i64 0,.int .i64 0,.slice none 0 0,.slice none 0 0,.string ⟨#[]⟩,.int .i64 0] 39)=W0 at hy hz hi0 hb0 hk0 ⊢
  have HX:=aM (show IXAt g (w.heap.size+1) W0.heap.size #[.int .i64 0,.int .i64 0,.int .i64 0,.int .i64 0,.slice none 0 0,.slice none 0 0,.string ⟨#[]⟩,.int .i64 0] tl ⟨op,id,n,ty,[],[],nm,at_⟩ (.slice none 0 0) (.slice none 0 0) s1 s2 s3 s4 s5 w0 w (W0.alloc (.cells #[.int .i64 op,.int .i64 id,.int .i64 n,.int .i64 ty,.slice none 0 0,.slice none 0 0,.string nm,.int .i64 at_] 39)) from
    ⟨hi0.alloc _,below_alloc hb0 _,keep_alloc hk0 _,HB.out.size,HL.out,Nat.le_succ _,blk_lt hz,blk_alloc hz _,blk_new _ _,TwoR.nil _ _⟩)
  have y_0:=blk_cell hy 0
  have y_1:=blk_cell hy 1
  have y_2:=blk_cell hy 2
  have y_3:=blk_cell hy 3
  have y_4:=blk_cell hy 4
  have y_5:=blk_cell hy 5
  have y_6:=blk_cell hy 6
  have y_7:=blk_cell hy 7
  clear hy hz hi0 hb0 hk0
  generalize hbx:W0.heap.size=bx_ at HX
  go_upto_region 2 with (fail)
  generalize W0.alloc (.cells #[.int .i64 op,.int .i64 id,.int .i64 n,.int .i64 ty,.slice none 0 0,.slice none 0 0,.string nm,.int .i64 at_] 39)=W1 at HX ⊢
  clear y_0 y_1 y_2 y_3 y_4 y_5 y_6 y_7
  have z0:=HX.out.at1 0
  simp only [iObj] at z0
  have h:=HF.out
  clear HF
  by_cases k1:op=1
  · rw [if_pos k1] at h
    have g1:(op==1)=true:=beq_iff_eq.mpr k1
    clear k1
    obtain ⟨⟨y0,y1,y2,y3,y4,y5⟩,hy,h⟩:=Option.bind_eq_some_iff.mp h
    have HY:=aM hy
    clear hy
    replace h:=Option.some.inj h
    simp only [Prod.mk.injEq] at h
    obtain ⟨rfl,rfl,rfl,rfl,rfl,rfl,rfl,rfl,rfl⟩:=h
    go_wp2_with fail
    refine (r06_Reader_number.calls k g tl _ _ _ _ _ (-9223372036854775808) 9223372036854775807 _ _ _ _ _ _ w0 _ HX.out.i HX.out.b HY.out).mono ?_
    rintro e w1 ⟨rfl,hi_,hb_,hk_⟩
    have HX1:=aM (HX.out.call hi_ hb_ hk_)
    clear hi_ hb_ hk_
    have c2_:=HX1.out.at1 2
    have f2_:=blk_frozen HX1.out.box 2
    simp only [iObj] at c2_
    have HX2:=aM (HX1.out.put (⟨op,id,y0,ty,[],[],nm,at_⟩:S39) 2 (.int .i64 y0) rfl rfl rfl)
    go_upto_region 23 with (fail)
    generalize w1.setCell ⟨bx_,2,none⟩ (.int .i64 y0)=W2 at HX2 ⊢
    clear c2_ f2_ z0 HX1
    have c_0:=HX2.out.at1 0
    have f_0:=blk_frozen HX2.out.box 0
    have d_0:=blk_cell HX2.out.zero 0
    have e_0:=blk_frozen HX2.out.zero 0
    have c_1:=HX2.out.at1 1
    have f_1:=blk_frozen HX2.out.box 1
    have d_1:=blk_cell HX2.out.zero 1
    have e_1:=blk_frozen HX2.out.zero 1
    have c_2:=HX2.out.at1 2
    have f_2:=blk_frozen HX2.out.box 2
    have d_2:=blk_cell HX2.out.zero 2
    have e_2:=blk_frozen HX2.out.zero 2
    have c_3:=HX2.out.at1 3
    have f_3:=blk_frozen HX2.out.box 3
    have d_3:=blk_cell HX2.out.zero 3
    have e_3:=blk_frozen HX2.out.zero 3
    have c_4:=HX2.out.at1 4
    have f_4:=blk_frozen HX2.out.box 4
    have d_4:=blk_cell HX2.out.zero 4
    have e_4:=blk_frozen HX2.out.zero 4
    have c_5:=HX2.out.at1 5
    have f_5:=blk_frozen HX2.out.box 5
    have d_5:=blk_cell HX2.out.zero 5
    have e_5:=blk_frozen HX2.out.zero 5
    have c_6:=HX2.out.at1 6
    have f_6:=blk_frozen HX2.out.box 6
    have d_6:=blk_cell HX2.out.zero 6
    have e_6:=blk_frozen HX2.out.zero 6
    have c_7:=HX2.out.at1 7
    have f_7:=blk_frozen HX2.out.box 7
    have d_7:=blk_cell HX2.out.zero 7
    have e_7:=blk_frozen HX2.out.zero 7
    have HE:=aM (HX2.out.fin HX2.out.two (.int .i64 (⟨op,id,y0,ty,[],[],nm,at_⟩:S39).f0) (.int .i64 (⟨op,id,y0,ty,[],[],nm,at_⟩:S39).f1) (.int .i64 (⟨op,id,y0,ty,[],[],nm,at_⟩:S39).f2) (.int .i64 (⟨op,id,y0,ty,[],[],nm,at_⟩:S39).f3) (.slice none 0 0) (.slice none 0 0) (.string (⟨op,id,y0,ty,[],[],nm,at_⟩:S39).f6) (.int .i64 (⟨op,id,y0,ty,[],[],nm,at_⟩:S39).f7))
    have hne:(w.heap.size+1)≠bx_:=by have:=HX2.out.lt;omega
    have hne':bx_≠(w.heap.size+1):=by have:=HX2.out.lt;omega
    simp only [iObj] at c_0 c_1 c_2 c_3 c_4 c_5 c_6 c_7
    go_wp2
    (try simp only [Exit.inBlock,Exit.then])
    refine bodyPost_ret (results_cell_row rfl _ _ (w.heap.size+1) 39 #[.int .i64 (⟨op,id,y0,ty,[],[],nm,at_⟩:S39).f0,.int .i64 (⟨op,id,y0,ty,[],[],nm,at_⟩:S39).f1,.int .i64 (⟨op,id,y0,ty,[],[],nm,at_⟩:S39).f2,.int .i64 (⟨op,id,y0,ty,[],[],nm,at_⟩:S39).f3,.slice none 0 0,.slice none 0 0,.string (⟨op,id,y0,ty,[],[],nm,at_⟩:S39).f6,.int .i64 (⟨op,id,y0,ty,[],[],nm,at_⟩:S39).f7] (0,0) _ rfl HE.out.1 Try.underlying39 rfl (by kernel_rfl)) rfl ?_
    exact ⟨_,_,rfl,HE.out.2.1,HE.out.2.2.1,HE.out.2.2.2.1,HE.out.2.2.2.2⟩
  rw [if_neg k1] at h
  have g1:(op==1)=false:=beq_eq_false_iff_ne.mpr k1
  by_cases k29:op=29
  · rw [if_pos k29] at h
    have g29:(op==29)=true:=beq_iff_eq.mpr k29
    clear k29
    obtain ⟨⟨y0,y1,y2,y3,y4,y5⟩,hy,h⟩:=Option.bind_eq_some_iff.mp h
    have HY:=aM hy
    clear hy
    replace h:=Option.some.inj h
    simp only [Prod.mk.injEq] at h
    obtain ⟨rfl,rfl,rfl,rfl,rfl,rfl,rfl,rfl,rfl⟩:=h
    go_wp2_with fail
    refine (r06_Reader_number.calls k g tl _ _ _ _ _ 0 255 _ _ _ _ _ _ w0 _ HX.out.i HX.out.b HY.out).mono ?_
    rintro e w1 ⟨rfl,hi_,hb_,hk_⟩
    have HX1:=aM (HX.out.call hi_ hb_ hk_)
    clear hi_ hb_ hk_
    have c2_:=HX1.out.at1 2
    have f2_:=blk_frozen HX1.out.box 2
    simp only [iObj] at c2_
    have HX2:=aM (HX1.out.put (⟨op,id,y0,ty,[],[],nm,at_⟩:S39) 2 (.int .i64 y0) rfl rfl rfl)
    go_upto_region 23 with (fail)
    generalize w1.setCell ⟨bx_,2,none⟩ (.int .i64 y0)=W2 at HX2 ⊢
    clear c2_ f2_ z0 HX1
    have c_0:=HX2.out.at1 0
    have f_0:=blk_frozen HX2.out.box 0
    have d_0:=blk_cell HX2.out.zero 0
    have e_0:=blk_frozen HX2.out.zero 0
    have c_1:=HX2.out.at1 1
    have f_1:=blk_frozen HX2.out.box 1
    have d_1:=blk_cell HX2.out.zero 1
    have e_1:=blk_frozen HX2.out.zero 1
    have c_2:=HX2.out.at1 2
    have f_2:=blk_frozen HX2.out.box 2
    have d_2:=blk_cell HX2.out.zero 2
    have e_2:=blk_frozen HX2.out.zero 2
    have c_3:=HX2.out.at1 3
    have f_3:=blk_frozen HX2.out.box 3
    have d_3:=blk_cell HX2.out.zero 3
    have e_3:=blk_frozen HX2.out.zero 3
    have c_4:=HX2.out.at1 4
    have f_4:=blk_frozen HX2.out.box 4
    have d_4:=blk_cell HX2.out.zero 4
    have e_4:=blk_frozen HX2.out.zero 4
    have c_5:=HX2.out.at1 5
    have f_5:=blk_frozen HX2.out.box 5
    have d_5:=blk_cell HX2.out.zero 5
    have e_5:=blk_frozen HX2.out.zero 5
    have c_6:=HX2.out.at1 6
    have f_6:=blk_frozen HX2.out.box 6
    have d_6:=blk_cell HX2.out.zero 6
    have e_6:=blk_frozen HX2.out.zero 6
    have c_7:=HX2.out.at1 7
    have f_7:=blk_frozen HX2.out.box 7
    have d_7:=blk_cell HX2.out.zero 7
    have e_7:=blk_frozen HX2.out.zero 7
    have HE:=aM (HX2.out.fin HX2.out.two (.int .i64 (⟨op,id,y0,ty,[],[],nm,at_⟩:S39).f0) (.int .i64 (⟨op,id,y0,ty,[],[],nm,at_⟩:S39).f1) (.int .i64 (⟨op,id,y0,ty,[],[],nm,at_⟩:S39).f2) (.int .i64 (⟨op,id,y0,ty,[],[],nm,at_⟩:S39).f3) (.slice none 0 0) (.slice none 0 0) (.string (⟨op,id,y0,ty,[],[],nm,at_⟩:S39).f6) (.int .i64 (⟨op,id,y0,ty,[],[],nm,at_⟩:S39).f7))
    have hne:(w.heap.size+1)≠bx_:=by have:=HX2.out.lt;omega
    have hne':bx_≠(w.heap.size+1):=by have:=HX2.out.lt;omega
    simp only [iObj] at c_0 c_1 c_2 c_3 c_4 c_5 c_6 c_7
    go_wp2
    (try simp only [Exit.inBlock,Exit.then])
    refine bodyPost_ret (results_cell_row rfl _ _ (w.heap.size+1) 39 #[.int .i64 (⟨op,id,y0,ty,[],[],nm,at_⟩:S39).f0,.int .i64 (⟨op,id,y0,ty,[],[],nm,at_⟩:S39).f1,.int .i64 (⟨op,id,y0,ty,[],[],nm,at_⟩:S39).f2,.int .i64 (⟨op,id,y0,ty,[],[],nm,at_⟩:S39).f3,.slice none 0 0,.slice none 0 0,.string (⟨op,id,y0,ty,[],[],nm,at_⟩:S39).f6,.int .i64 (⟨op,id,y0,ty,[],[],nm,at_⟩:S39).f7] (0,0) _ rfl HE.out.1 Try.underlying39 rfl (by kernel_rfl)) rfl ?_
    exact ⟨_,_,rfl,HE.out.2.1,HE.out.2.2.1,HE.out.2.2.2.1,HE.out.2.2.2.2⟩
  rw [if_neg k29] at h
  have g29:(op==29)=false:=beq_eq_false_iff_ne.mpr k29
  by_cases k10:op=10
  · rw [if_pos k10] at h
    have g10:(op==10)=true:=beq_iff_eq.mpr k10
    clear k10
    obtain ⟨⟨p0,p1,p2,p3,p4,p5⟩,hp,h⟩:=Option.bind_eq_some_iff.mp h
    obtain ⟨⟨q0,q1,q2⟩,hq,h⟩:=Option.bind_eq_some_iff.mp h
    have HP:=aM hp
    have HQ:=aM hq
    have HF:=aM h
    clear hp hq h
    go_wp2_with fail
    refine (r06_Reader_peek.calls g tl _ _ _ _ _ 0 _ _ _ _ _ _ w0 _ HX.out.i HX.out.b HP.out).mono ?_
    rintro e w1 ⟨rfl,hi_,hb_,hk_⟩
    have HX1:=aM (HX.out.call hi_ hb_ hk_)
    clear hi_ hb_ hk_
    go_wp2_with fail
    refine (r03_Parse.calls k p0 q0 q1 q2 _ HQ.out).mono ?_
    rintro e w2 ⟨rfl,hb_⟩
    have HX2:=aM ((HX1.out.below hb_).below (below_alloc (Below.refl _ _) (.cells #[.int .i64 q0,.int .i64 q1] 73)))
    clear hb_ HX1 z0
    go_upto_region 11 with (fail)
    generalize w2.alloc (.cells #[.int .i64 q0,.int .i64 q1] 73)=W2 at HX2 ⊢
    have h:=HF.out
    by_cases kq:q2=0
    · rw [if_pos kq] at h
      have gq:(q2 !=0)=false:=bne_eq_false_iff_eq.mpr kq
      have gq1:(q2==0)=true:=beq_iff_eq.mpr kq
      clear kq
      replace h:=Option.some.inj h
      simp only [Prod.mk.injEq] at h
      obtain ⟨rfl,rfl,rfl,rfl,rfl,rfl,rfl,rfl,rfl⟩:=h
      have c6_:=HX2.out.at1 6
      have f6_:=blk_frozen HX2.out.box 6
      simp only [iObj] at c6_
      have HX3:=aM (HX2.out.put (⟨op,id,n,ty,[],[],p0,at_⟩:S39) 6 (.string p0) rfl rfl rfl)
      go_upto_region 15 with (fail)
      generalize W2.setCell ⟨bx_,6,none⟩ (.string p0)=W3 at HX3 ⊢
      clear c6_ f6_ HX2
      obtain ⟨A0,c0,hG,hg_,hS_⟩:=HX3.out.i
      have hc1:=cellS89_1 hG
      have hf1:=blk_frozen hG 1
      have HX4:=aM (HX3.out.call (HX3.out.i.set_1 (wrap64 (p1+1))) (below_set HX3.out.b hg_) ((KeepBut.refl W3 g none).set_ 1 _))
      clear hG hg_ hS_
      go_upto_region 23 with (fail)
      generalize W3.setCell ⟨g,1,none⟩ (.int .i64 (wrap64 (p1+1)))=W4 at HX4 ⊢
      clear hc1 hf1 HX3
      have c_0:=HX4.out.at1 0
      have f_0:=blk_frozen HX4.out.box 0
      have d_0:=blk_cell HX4.out.zero 0
      have e_0:=blk_frozen HX4.out.zero 0
      have c_1:=HX4.out.at1 1
      have f_1:=blk_frozen HX4.out.box 1
      have d_1:=blk_cell HX4.out.zero 1
      have e_1:=blk_frozen HX4.out.zero 1
      have c_2:=HX4.out.at1 2
      have f_2:=blk_frozen HX4.out.box 2
      have d_2:=blk_cell HX4.out.zero 2
      have e_2:=blk_frozen HX4.out.zero 2
      have c_3:=HX4.out.at1 3
      have f_3:=blk_frozen HX4.out.box 3
      have d_3:=blk_cell HX4.out.zero 3
      have e_3:=blk_frozen HX4.out.zero 3
      have c_4:=HX4.out.at1 4
      have f_4:=blk_frozen HX4.out.box 4
      have d_4:=blk_cell HX4.out.zero 4
      have e_4:=blk_frozen HX4.out.zero 4
      have c_5:=HX4.out.at1 5
      have f_5:=blk_frozen HX4.out.box 5
      have d_5:=blk_cell HX4.out.zero 5
      have e_5:=blk_frozen HX4.out.zero 5
      have c_6:=HX4.out.at1 6
      have f_6:=blk_frozen HX4.out.box 6
      have d_6:=blk_cell HX4.out.zero 6
      have e_6:=blk_frozen HX4.out.zero 6
      have c_7:=HX4.out.at1 7
      have f_7:=blk_frozen HX4.out.box 7
      have d_7:=blk_cell HX4.out.zero 7
      have e_7:=blk_frozen HX4.out.zero 7
      have HE:=aM (HX4.out.fin HX4.out.two (.int .i64 (⟨op,id,n,ty,[],[],p0,at_⟩:S39).f0) (.int .i64 (⟨op,id,n,ty,[],[],p0,at_⟩:S39).f1) (.int .i64 (⟨op,id,n,ty,[],[],p0,at_⟩:S39).f2) (.int .i64 (⟨op,id,n,ty,[],[],p0,at_⟩:S39).f3) (.slice none 0 0) (.slice none 0 0) (.string (⟨op,id,n,ty,[],[],p0,at_⟩:S39).f6) (.int .i64 (⟨op,id,n,ty,[],[],p0,at_⟩:S39).f7))
      have hne:(w.heap.size+1)≠bx_:=by have:=HX4.out.lt;omega
      have hne':bx_≠(w.heap.size+1):=by have:=HX4.out.lt;omega
      simp only [iObj] at c_0 c_1 c_2 c_3 c_4 c_5 c_6 c_7
      go_wp2
      (try simp only [Exit.inBlock,Exit.then])
      refine bodyPost_ret (results_cell_row rfl _ _ (w.heap.size+1) 39 #[.int .i64 (⟨op,id,n,ty,[],[],p0,at_⟩:S39).f0,.int .i64 (⟨op,id,n,ty,[],[],p0,at_⟩:S39).f1,.int .i64 (⟨op,id,n,ty,[],[],p0,at_⟩:S39).f2,.int .i64 (⟨op,id,n,ty,[],[],p0,at_⟩:S39).f3,.slice none 0 0,.slice none 0 0,.string (⟨op,id,n,ty,[],[],p0,at_⟩:S39).f6,.int .i64 (⟨op,id,n,ty,[],[],p0,at_⟩:S39).f7] (0,0) _ rfl HE.out.1 Try.underlying39 rfl (by kernel_rfl)) rfl ?_
      exact ⟨_,_,rfl,HE.out.2.1,HE.out.2.2.1,HE.out.2.2.2.1,HE.out.2.2.2.2⟩
    · rw [if_neg kq] at h
      have gq:(q2 !=0)=true:=bne_iff_ne.mpr kq
      have gq1:(q2==0)=false:=beq_eq_false_iff_ne.mpr kq
      clear kq
      obtain ⟨⟨f1,f2,f3,f4,f5⟩,hf,h⟩:=Option.bind_eq_some_iff.mp h
      have HFL:=aM hf
      clear hf
      replace h:=Option.some.inj h
      simp only [Prod.mk.injEq] at h
      obtain ⟨rfl,rfl,rfl,rfl,rfl,rfl,rfl,rfl,rfl⟩:=h
      go_wp2_with fail
      refine (r06_Reader_fail.calls g tl _ _ _ _ _ q2 _ _ _ _ _ w0 _ HX2.out.i HX2.out.b HFL.out).mono ?_
      rintro e w3 ⟨rfl,hi_,hb_,hk_⟩
      have HX3:=aM (HX2.out.call hi_ hb_ hk_)
      clear hi_ hb_ hk_ HX2
      go_upto_region 13 with (fail)
      have c_0:=HX3.out.at1 0
      have f_0:=blk_frozen HX3.out.box 0
      have d_0:=blk_cell HX3.out.zero 0
      have e_0:=blk_frozen HX3.out.zero 0
      have c_1:=HX3.out.at1 1
      have f_1:=blk_frozen HX3.out.box 1
      have d_1:=blk_cell HX3.out.zero 1
      have e_1:=blk_frozen HX3.out.zero 1
      have c_2:=HX3.out.at1 2
      have f_2:=blk_frozen HX3.out.box 2
      have d_2:=blk_cell HX3.out.zero 2
      have e_2:=blk_frozen HX3.out.zero 2
      have c_3:=HX3.out.at1 3
      have f_3:=blk_frozen HX3.out.box 3
      have d_3:=blk_cell HX3.out.zero 3
      have e_3:=blk_frozen HX3.out.zero 3
      have c_4:=HX3.out.at1 4
      have f_4:=blk_frozen HX3.out.box 4
      have d_4:=blk_cell HX3.out.zero 4
      have e_4:=blk_frozen HX3.out.zero 4
      have c_5:=HX3.out.at1 5
      have f_5:=blk_frozen HX3.out.box 5
      have d_5:=blk_cell HX3.out.zero 5
      have e_5:=blk_frozen HX3.out.zero 5
      have c_6:=HX3.out.at1 6
      have f_6:=blk_frozen HX3.out.box 6
      have d_6:=blk_cell HX3.out.zero 6
      have e_6:=blk_frozen HX3.out.zero 6
      have c_7:=HX3.out.at1 7
      have f_7:=blk_frozen HX3.out.box 7
      have d_7:=blk_cell HX3.out.zero 7
      have e_7:=blk_frozen HX3.out.zero 7
      have HE:=aM (HX3.out.fin HX3.out.two (.int .i64 (⟨op,id,n,ty,[],[],nm,at_⟩:S39).f0) (.int .i64 (⟨op,id,n,ty,[],[],nm,at_⟩:S39).f1) (.int .i64 (⟨op,id,n,ty,[],[],nm,at_⟩:S39).f2) (.int .i64 (⟨op,id,n,ty,[],[],nm,at_⟩:S39).f3) (.slice none 0 0) (.slice none 0 0) (.string (⟨op,id,n,ty,[],[],nm,at_⟩:S39).f6) (.int .i64 (⟨op,id,n,ty,[],[],nm,at_⟩:S39).f7))
      have hne:(w.heap.size+1)≠bx_:=by have:=HX3.out.lt;omega
      have hne':bx_≠(w.heap.size+1):=by have:=HX3.out.lt;omega
      simp only [iObj] at c_0 c_1 c_2 c_3 c_4 c_5 c_6 c_7
      go_wp2
      (try simp only [Exit.inBlock,Exit.then])
      refine bodyPost_ret (results_cell_row rfl _ _ (w.heap.size+1) 39 #[.int .i64 (⟨op,id,n,ty,[],[],nm,at_⟩:S39).f0,.int .i64 (⟨op,id,n,ty,[],[],nm,at_⟩:S39).f1,.int .i64 (⟨op,id,n,ty,[],[],nm,at_⟩:S39).f2,.int .i64 (⟨op,id,n,ty,[],[],nm,at_⟩:S39).f3,.slice none 0 0,.slice none 0 0,.string (⟨op,id,n,ty,[],[],nm,at_⟩:S39).f6,.int .i64 (⟨op,id,n,ty,[],[],nm,at_⟩:S39).f7] (0,0) _ rfl HE.out.1 Try.underlying39 rfl (by kernel_rfl)) rfl ?_
      exact ⟨_,_,rfl,HE.out.2.1,HE.out.2.2.1,HE.out.2.2.2.1,HE.out.2.2.2.2⟩
  rw [if_neg k10] at h
  have g10:(op==10)=false:=beq_eq_false_iff_ne.mpr k10
  by_cases k20:op=20
  · rw [if_pos k20] at h
    have g20:(op==20)=true:=beq_iff_eq.mpr k20
    clear k20
    obtain ⟨⟨y0,y1,y2,y3,y4,y5,y6⟩,hy,h⟩:=Option.bind_eq_some_iff.mp h
    have HY:=aM hy
    clear hy
    replace h:=Option.some.inj h
    simp only [Prod.mk.injEq] at h
    obtain ⟨rfl,rfl,rfl,rfl,rfl,rfl,rfl,rfl,rfl⟩:=h
    have c_0:=HX.out.at1 0
    have c_1:=HX.out.at1 1
    have c_2:=HX.out.at1 2
    have c_3:=HX.out.at1 3
    have c_4:=HX.out.at1 4
    have c_5:=HX.out.at1 5
    have c_6:=HX.out.at1 6
    have c_7:=HX.out.at1 7
    simp only [iObj] at c_0 c_1 c_2 c_3 c_4 c_5 c_6 c_7
    go_wp2_with fail
    refine (r06_Reader_phi.calls k g tl _ _ _ _ _ op id n ty nm at_ _ _ _ _ _ _ _ w0 _ HX.out.i HX.out.b HY.out).mono ?_
    rintro e w5 ⟨va,vt,rfl,ht_,hi_,hb_,hk_⟩
    obtain ⟨Aa,ca,rfl⟩:=Kd.R_slice ht_.ra
    obtain ⟨At,ct,rfl⟩:=Kd.R_slice ht_.rt
    have HX5:=aM (HX.out.call hi_ hb_ hk_)
    have HT:=aM (ht_.lower (keep_size HX.out.k))
    clear ht_ hi_ hb_ hk_ z0
    clear c_0 c_1 c_2 c_3 c_4 c_5 c_6 c_7
    have d_0:=blk_cell HX5.out.zero 0
    have e_0:=blk_frozen HX5.out.zero 0
    have d_1:=blk_cell HX5.out.zero 1
    have e_1:=blk_frozen HX5.out.zero 1
    have d_2:=blk_cell HX5.out.zero 2
    have e_2:=blk_frozen HX5.out.zero 2
    have d_3:=blk_cell HX5.out.zero 3
    have e_3:=blk_frozen HX5.out.zero 3
    have d_4:=blk_cell HX5.out.zero 4
    have e_4:=blk_frozen HX5.out.zero 4
    have d_5:=blk_cell HX5.out.zero 5
    have e_5:=blk_frozen HX5.out.zero 5
    have d_6:=blk_cell HX5.out.zero 6
    have e_6:=blk_frozen HX5.out.zero 6
    have d_7:=blk_cell HX5.out.zero 7
    have e_7:=blk_frozen HX5.out.zero 7
    have HE:=aM (HX5.out.fin HT.out (.int .i64 op) (.int .i64 id) (.int .i64 n) (.int .i64 ty) (.slice Aa y0.length ca) (.slice At y1.length ct) (.string nm) (.int .i64 at_))
    have hne:(w.heap.size+1)≠bx_:=by have:=HX5.out.lt;omega
    have hne':bx_≠(w.heap.size+1):=by have:=HX5.out.lt;omega
    go_wp2
    (try simp only [Exit.inBlock,Exit.then])
    refine bodyPost_ret (results_cell_row rfl _ _ (w.heap.size+1) 39 #[.int .i64 op,.int .i64 id,.int .i64 n,.int .i64 ty,.slice Aa y0.length ca,.slice At y1.length ct,.string nm,.int .i64 at_] (0,0) _ rfl HE.out.1 Try.underlying39 rfl (by kernel_rfl)) rfl ?_
    exact ⟨_,_,rfl,HE.out.2.1,HE.out.2.2.1,HE.out.2.2.2.1,HE.out.2.2.2.2⟩
  rw [if_neg k20] at h
  have g20:(op==20)=false:=beq_eq_false_iff_ne.mpr k20
  by_cases k21:op=21
  · rw [if_pos k21] at h
    have g21:(op==21)=true:=beq_iff_eq.mpr k21
    clear k21
    obtain ⟨⟨y0,y1,y2,y3,y4,y5,y6,y7⟩,hy,h⟩:=Option.bind_eq_some_iff.mp h
    have HY:=aM hy
    clear hy
    replace h:=Option.some.inj h
    simp only [Prod.mk.injEq] at h
    obtain ⟨rfl,rfl,rfl,rfl,rfl,rfl,rfl,rfl,rfl⟩:=h
    have c_0:=HX.out.at1 0
    have c_1:=HX.out.at1 1
    have c_2:=HX.out.at1 2
    have c_3:=HX.out.at1 3
    have c_4:=HX.out.at1 4
    have c_5:=HX.out.at1 5
    have c_6:=HX.out.at1 6
    have c_7:=HX.out.at1 7
    simp only [iObj] at c_0 c_1 c_2 c_3 c_4 c_5 c_6 c_7
    go_wp2_with fail
    refine (r06_Reader_call.calls k g tl _ _ _ _ _ op id n ty nm at_ _ _ _ _ _ _ _ _ w0 _ HX.out.i HX.out.b HY.out).mono ?_
    rintro e w5 ⟨va,rfl,ht_,hi_,hb_,hk_⟩
    obtain ⟨Aa,ca,rfl⟩:=Kd.R_slice ht_.ra
    have HX5:=aM (HX.out.call hi_ hb_ hk_)
    have HT:=aM (ht_.lower (keep_size HX.out.k))
    clear ht_ hi_ hb_ hk_ z0
    clear c_0 c_1 c_2 c_3 c_4 c_5 c_6 c_7
    have d_0:=blk_cell HX5.out.zero 0
    have e_0:=blk_frozen HX5.out.zero 0
    have d_1:=blk_cell HX5.out.zero 1
    have e_1:=blk_frozen HX5.out.zero 1
    have d_2:=blk_cell HX5.out.zero 2
    have e_2:=blk_frozen HX5.out.zero 2
    have d_3:=blk_cell HX5.out.zero 3
    have e_3:=blk_frozen HX5.out.zero 3
    have d_4:=blk_cell HX5.out.zero 4
    have e_4:=blk_frozen HX5.out.zero 4
    have d_5:=blk_cell HX5.out.zero 5
    have e_5:=blk_frozen HX5.out.zero 5
    have d_6:=blk_cell HX5.out.zero 6
    have e_6:=blk_frozen HX5.out.zero 6
    have d_7:=blk_cell HX5.out.zero 7
    have e_7:=blk_frozen HX5.out.zero 7
    have HE:=aM (HX5.out.fin HT.out (.int .i64 op) (.int .i64 id) (.int .i64 y0) (.int .i64 ty) (.slice Aa y2.length ca) (.slice none 0 0) (.string y1) (.int .i64 at_))
    have hne:(w.heap.size+1)≠bx_:=by have:=HX5.out.lt;omega
    have hne':bx_≠(w.heap.size+1):=by have:=HX5.out.lt;omega
    go_wp2
    (try simp only [Exit.inBlock,Exit.then])
    refine bodyPost_ret (results_cell_row rfl _ _ (w.heap.size+1) 39 #[.int .i64 op,.int .i64 id,.int .i64 y0,.int .i64 ty,.slice Aa y2.length ca,.slice none 0 0,.string y1,.int .i64 at_] (0,0) _ rfl HE.out.1 Try.underlying39 rfl (by kernel_rfl)) rfl ?_
    exact ⟨_,_,rfl,HE.out.2.1,HE.out.2.2.1,HE.out.2.2.2.1,HE.out.2.2.2.2⟩
  rw [if_neg k21] at h
  have g21:(op==21)=false:=beq_eq_false_iff_ne.mpr k21
  by_cases k28:op=28
  · rw [if_pos k28] at h
    have g28:(op==28)=true:=beq_iff_eq.mpr k28
    clear k28
    obtain ⟨⟨c,u1,u2,u3,u4,u5⟩,hc,h⟩:=Option.bind_eq_some_iff.mp h
    have HC:=aM hc
    clear hc
    go_wp2_with fail
    refine (r06_Reader_taken.calls g tl _ _ _ _ _ _ _ _ _ _ _ w0 _ HX.out.i HX.out.b HC.out).mono ?_
    rintro e w1 ⟨rfl,hi_,hb_,hk_⟩
    have HX1:=aM (HX.out.call hi_ hb_ hk_)
    clear hi_ hb_ hk_
    cases c with
    | true=>
      rw [if_pos rfl] at h
      obtain ⟨⟨y0,y1,y2,y3,y4,y5,y6,y7⟩,hy,h⟩:=Option.bind_eq_some_iff.mp h
      have HY:=aM hy
      clear hy z0
      replace h:=Option.some.inj h
      simp only [Prod.mk.injEq] at h
      obtain ⟨rfl,rfl,rfl,rfl,rfl,rfl,rfl,rfl,rfl⟩:=h
      have c_0:=HX1.out.at1 0
      have c_1:=HX1.out.at1 1
      have c_2:=HX1.out.at1 2
      have c_3:=HX1.out.at1 3
      have c_4:=HX1.out.at1 4
      have c_5:=HX1.out.at1 5
      have c_6:=HX1.out.at1 6
      have c_7:=HX1.out.at1 7
      simp only [iObj] at c_0 c_1 c_2 c_3 c_4 c_5 c_6 c_7
      go_wp2_with fail
      refine (r06_Reader_rest.calls k g tl _ _ _ _ _ op id n ty nm at_ (⟨#[118]⟩:ByteArray) _ _ _ _ _ _ _ _ w0 _ HX1.out.i HX1.out.b HY.out).mono ?_
      rintro e w5 ⟨va,vt,rfl,ht_,hi_,hb_,hk_⟩
      obtain ⟨Aa,ca,rfl⟩:=Kd.R_slice ht_.ra
      obtain ⟨At,ct,rfl⟩:=Kd.R_slice ht_.rt
      have HX5:=aM (HX1.out.call hi_ hb_ hk_)
      have HT:=aM (ht_.lower (keep_size HX1.out.k))
      clear ht_ hi_ hb_ hk_
      clear c_0 c_1 c_2 c_3 c_4 c_5 c_6 c_7
      have d_0:=blk_cell HX5.out.zero 0
      have e_0:=blk_frozen HX5.out.zero 0
      have d_1:=blk_cell HX5.out.zero 1
      have e_1:=blk_frozen HX5.out.zero 1
      have d_2:=blk_cell HX5.out.zero 2
      have e_2:=blk_frozen HX5.out.zero 2
      have d_3:=blk_cell HX5.out.zero 3
      have e_3:=blk_frozen HX5.out.zero 3
      have d_4:=blk_cell HX5.out.zero 4
      have e_4:=blk_frozen HX5.out.zero 4
      have d_5:=blk_cell HX5.out.zero 5
      have e_5:=blk_frozen HX5.out.zero 5
      have d_6:=blk_cell HX5.out.zero 6
      have e_6:=blk_frozen HX5.out.zero 6
      have d_7:=blk_cell HX5.out.zero 7
      have e_7:=blk_frozen HX5.out.zero 7
      have HE:=aM (HX5.out.fin HT.out (.int .i64 op) (.int .i64 id) (.int .i64 y0) (.int .i64 ty) (.slice Aa y1.length ca) (.slice At y2.length ct) (.string nm) (.int .i64 at_))
      have hne:(w.heap.size+1)≠bx_:=by have:=HX5.out.lt;omega
      have hne':bx_≠(w.heap.size+1):=by have:=HX5.out.lt;omega
      go_wp2
      (try simp only [Exit.inBlock,Exit.then])
      refine bodyPost_ret (results_cell_row rfl _ _ (w.heap.size+1) 39 #[.int .i64 op,.int .i64 id,.int .i64 y0,.int .i64 ty,.slice Aa y1.length ca,.slice At y2.length ct,.string nm,.int .i64 at_] (0,0) _ rfl HE.out.1 Try.underlying39 rfl (by kernel_rfl)) rfl ?_
      exact ⟨_,_,rfl,HE.out.2.1,HE.out.2.2.1,HE.out.2.2.2.1,HE.out.2.2.2.2⟩
    | false=>
      rw [if_neg (by simp)] at h
      replace h:=Option.some.inj h
      simp only [Prod.mk.injEq] at h
      obtain ⟨rfl,rfl,rfl,rfl,rfl,rfl,rfl,rfl,rfl⟩:=h
      go_upto_region 23 with (fail)
      clear z0
      have c_0:=HX1.out.at1 0
      have f_0:=blk_frozen HX1.out.box 0
      have d_0:=blk_cell HX1.out.zero 0
      have e_0:=blk_frozen HX1.out.zero 0
      have c_1:=HX1.out.at1 1
      have f_1:=blk_frozen HX1.out.box 1
      have d_1:=blk_cell HX1.out.zero 1
      have e_1:=blk_frozen HX1.out.zero 1
      have c_2:=HX1.out.at1 2
      have f_2:=blk_frozen HX1.out.box 2
      have d_2:=blk_cell HX1.out.zero 2
      have e_2:=blk_frozen HX1.out.zero 2
      have c_3:=HX1.out.at1 3
      have f_3:=blk_frozen HX1.out.box 3
      have d_3:=blk_cell HX1.out.zero 3
      have e_3:=blk_frozen HX1.out.zero 3
      have c_4:=HX1.out.at1 4
      have f_4:=blk_frozen HX1.out.box 4
      have d_4:=blk_cell HX1.out.zero 4
      have e_4:=blk_frozen HX1.out.zero 4
      have c_5:=HX1.out.at1 5
      have f_5:=blk_frozen HX1.out.box 5
      have d_5:=blk_cell HX1.out.zero 5
      have e_5:=blk_frozen HX1.out.zero 5
      have c_6:=HX1.out.at1 6
      have f_6:=blk_frozen HX1.out.box 6
      have d_6:=blk_cell HX1.out.zero 6
      have e_6:=blk_frozen HX1.out.zero 6
      have c_7:=HX1.out.at1 7
      have f_7:=blk_frozen HX1.out.box 7
      have d_7:=blk_cell HX1.out.zero 7
      have e_7:=blk_frozen HX1.out.zero 7
      have HE:=aM (HX1.out.fin HX1.out.two (.int .i64 (⟨op,id,n,ty,[],[],nm,at_⟩:S39).f0) (.int .i64 (⟨op,id,n,ty,[],[],nm,at_⟩:S39).f1) (.int .i64 (⟨op,id,n,ty,[],[],nm,at_⟩:S39).f2) (.int .i64 (⟨op,id,n,ty,[],[],nm,at_⟩:S39).f3) (.slice none 0 0) (.slice none 0 0) (.string (⟨op,id,n,ty,[],[],nm,at_⟩:S39).f6) (.int .i64 (⟨op,id,n,ty,[],[],nm,at_⟩:S39).f7))
      have hne:(w.heap.size+1)≠bx_:=by have:=HX1.out.lt;omega
      have hne':bx_≠(w.heap.size+1):=by have:=HX1.out.lt;omega
      simp only [iObj] at c_0 c_1 c_2 c_3 c_4 c_5 c_6 c_7
      go_wp2
      (try simp only [Exit.inBlock,Exit.then])
      refine bodyPost_ret (results_cell_row rfl _ _ (w.heap.size+1) 39 #[.int .i64 (⟨op,id,n,ty,[],[],nm,at_⟩:S39).f0,.int .i64 (⟨op,id,n,ty,[],[],nm,at_⟩:S39).f1,.int .i64 (⟨op,id,n,ty,[],[],nm,at_⟩:S39).f2,.int .i64 (⟨op,id,n,ty,[],[],nm,at_⟩:S39).f3,.slice none 0 0,.slice none 0 0,.string (⟨op,id,n,ty,[],[],nm,at_⟩:S39).f6,.int .i64 (⟨op,id,n,ty,[],[],nm,at_⟩:S39).f7] (0,0) _ rfl HE.out.1 Try.underlying39 rfl (by kernel_rfl)) rfl ?_
      exact ⟨_,_,rfl,HE.out.2.1,HE.out.2.2.1,HE.out.2.2.2.1,HE.out.2.2.2.2⟩
  rw [if_neg k28] at h
  have g28:(op==28)=false:=beq_eq_false_iff_ne.mpr k28
  obtain ⟨l,hl,h⟩:=Option.bind_eq_some_iff.mp h
  obtain ⟨⟨y0,y1,y2,y3,y4,y5,y6,y7⟩,hy,h⟩:=Option.bind_eq_some_iff.mp h
  have HLT:=aM hl
  have HY:=aM hy
  clear hl hy k1 k29 k10 k20 k21 k28
  replace h:=Option.some.inj h
  simp only [Prod.mk.injEq] at h
  obtain ⟨rfl,rfl,rfl,rfl,rfl,rfl,rfl,rfl,rfl⟩:=h
  go_upto_region 3 with (fail)
  clear z0
  have HXd:=aM (show IXAt g (w.heap.size+1) bx_ #[.int .i64 0,.int .i64 0,.int .i64 0,.int .i64 0,.slice none 0 0,.slice none 0 0,.string ⟨#[]⟩,.int .i64 0] tl ⟨op,id,n,ty,[],[],nm,at_⟩ (.slice none 0 0) (.slice none 0 0) s1 s2 s3 s4 s5 w0 w W1.drew from HX.out.below (below_drew1 (Below.refl _ _)))
  clear HX
  refine start_ (n:=7) (S:=fun w'=>w'.cell? ⟨bx_,0,none⟩=some (.int .i64 op)∧w'.cell? ⟨bx_,1,none⟩=some (.int .i64 id)∧w'.cell? ⟨bx_,2,none⟩=some (.int .i64 n)∧w'.cell? ⟨bx_,3,none⟩=some (.int .i64 ty)∧w'.cell? ⟨bx_,4,none⟩=some (.slice none 0 0)∧w'.cell? ⟨bx_,5,none⟩=some (.slice none 0 0)∧w'.cell? ⟨bx_,6,none⟩=some (.string nm)∧w'.cell? ⟨bx_,7,none⟩=some (.int .i64 at_)) (ds:=[6]) #[false,false,false,false,false,false,false] (by kernel_rfl) rfl rfl ⟨(HXd.out.at1 0),(HXd.out.at1 1),(HXd.out.at1 2),(HXd.out.at1 3),(HXd.out.at1 4),(HXd.out.at1 5),(HXd.out.at1 6),(HXd.out.at1 7)⟩ (fun hHeld=>?_)
  refine pure_ (i:=0) (N:=some 12) (v:=?_) (a':=?_) #[true,false,false,false,false,false,false] rfl rfl (by kernel_rfl) (fun _ _ _ h=>h) (Or.inl ⟨by rfl,?_⟩) ?_ ?_
  rotate_left
  · intro w'
    go_simp
    with_reducible rfl
  rotate_left
  · simp only [Act.put,qA,qB,qC,i64_w,i32_w]
    rfl
  refine pure_ (i:=2) (N:=some 14) (v:=?_) (a':=?_) #[true,false,true,false,false,false,false] rfl rfl (by kernel_rfl) (fun _ _ _ h=>h) (Or.inl ⟨by rfl,?_⟩) ?_ ?_
  rotate_left
  · intro w'
    go_simp
    with_reducible rfl
  rotate_left
  · simp only [Act.put,qA,qB,qC,i64_w,i32_w]
    rfl
  refine take_ (i:=1) (N:=some 13) (v:=?_) (a':=?_) #[true,true,true,false,false,false,false] rfl rfl (by kernel_rfl) (fun _ _ _ h=>h) (Or.inl ⟨by rfl,?_⟩) hHeld ?_ ?_
  rotate_left
  · rintro w' ⟨s0,s1,s2,s3,s4,s5,s6,s7⟩
    go_simp
    with_reducible rfl
  rotate_left
  · simp only [Act.put,qA,qB,qC,i64_w,i32_w]
    rfl
  refine take_ (i:=3) (N:=some 15) (v:=?_) (a':=?_) #[true,true,true,true,false,false,false] rfl rfl (by kernel_rfl) (fun _ _ _ h=>h) (Or.inl ⟨by rfl,?_⟩) hHeld ?_ ?_
  rotate_left
  · rintro w' ⟨s0,s1,s2,s3,s4,s5,s6,s7⟩
    go_simp
    with_reducible rfl
  rotate_left
  · simp only [Act.put,qA,qB,qC,i64_w,i32_w]
    rfl
  refine one_ (i:=4) (N:=some 16) #[true,true,true,true,true,false,false] rfl rfl (by kernel_rfl) (by decide) (fun K hK=>?_)
  refine goes_ Try.func115 (by kernel_rfl) rfl #[.int .i64 op] (by rfl) rfl rfl (by simp only [List.map_toArray,List.map_cons,List.map_nil];rfl) ?_
  with_reducible refine (r06_letters.calls k op l _ HLT.out).mono ?_
  rintro e w3_ ⟨rfl,hb_⟩
  refine ⟨_,rfl,?_⟩
  have HX3:=aM (HXd.out.below hb_)
  clear hb_
  refine hK.out _ _ ⟨(HX3.out.at1 0),(HX3.out.at1 1),(HX3.out.at1 2),(HX3.out.at1 3),(HX3.out.at1 4),(HX3.out.at1 5),(HX3.out.at1 6),(HX3.out.at1 7)⟩ (fun hHeld=>?_)
  clear hK K
  refine norm_ (a':=?_) ?_ ?_
  rotate_left
  · show Act.put _ (some 16) _=_
    simp only [Act.put,qA,qB,qC,i64_w,i32_w]
    rfl
  refine one_ (i:=5) (N:=some 17) #[true,true,true,true,true,true,false] rfl rfl (by kernel_rfl) (by decide) (fun K hK=>?_)
  refine goes_ Try.func114 (by kernel_rfl) rfl #[.pointer (some ⟨g,0,none⟩),.agg #[.int .i64 op,.int .i64 id,.int .i64 n,.int .i64 ty,.slice none 0 0,.slice none 0 0,.string nm,.int .i64 at_],.string l] (by rfl) rfl rfl (by simp only [List.map_toArray,List.map_cons,List.map_nil];rfl) ?_
  with_reducible refine (r06_Reader_rest.calls k g tl _ _ _ _ _ op id n ty nm at_ l _ _ _ _ _ _ _ _ w0 _ HX3.out.i HX3.out.b HY.out).mono ?_
  rintro e w5 ⟨va,vt,rfl,ht_,hi_,hb_,hk_⟩
  refine ⟨_,rfl,?_⟩
  obtain ⟨Aa,ca,rfl⟩:=Kd.R_slice ht_.ra
  obtain ⟨At,ct,rfl⟩:=Kd.R_slice ht_.rt
  have HX5:=aM (HX3.out.call hi_ hb_ hk_)
  have HT:=aM (ht_.lower (keep_size HX3.out.k))
  clear ht_ hi_ hb_ hk_
  have d_0:=blk_cell HX5.out.zero 0
  have e_0:=blk_frozen HX5.out.zero 0
  have d_1:=blk_cell HX5.out.zero 1
  have e_1:=blk_frozen HX5.out.zero 1
  have d_2:=blk_cell HX5.out.zero 2
  have e_2:=blk_frozen HX5.out.zero 2
  have d_3:=blk_cell HX5.out.zero 3
  have e_3:=blk_frozen HX5.out.zero 3
  have d_4:=blk_cell HX5.out.zero 4
  have e_4:=blk_frozen HX5.out.zero 4
  have d_5:=blk_cell HX5.out.zero 5
  have e_5:=blk_frozen HX5.out.zero 5
  have d_6:=blk_cell HX5.out.zero 6
  have e_6:=blk_frozen HX5.out.zero 6
  have d_7:=blk_cell HX5.out.zero 7
  have e_7:=blk_frozen HX5.out.zero 7
  have HE:=aM (HX5.out.fin HT.out (.int .i64 op) (.int .i64 id) (.int .i64 y0) (.int .i64 ty) (.slice Aa y1.length ca) (.slice At y2.length ct) (.string nm) (.int .i64 at_))
  refine hK.out _ _ ⟨(HX5.out.at1 0),(HX5.out.at1 1),(HX5.out.at1 2),(HX5.out.at1 3),(HX5.out.at1 4),(HX5.out.at1 5),(HX5.out.at1 6),(HX5.out.at1 7)⟩ (fun hHeld=>?_)
  clear hK K
  refine norm_ (a':=?_) ?_ ?_
  rotate_left
  · show Act.put _ (some 17) _=_
    simp only [Act.put,qA,qB,qC,i64_w,i32_w]
    rfl
  refine last_ (i:=6) (N:=none) #[true,true,true,true,true,true,true] rfl rfl (by kernel_rfl) (by decide) (fun K hK=>?_)
  refine skip_ (w1:=?_) (by rfl) rfl ?_ ?_
  rotate_left
  · go_simp
    rfl
  refine hK.out _ _ ?_
  clear hK K
  refine done_ (by kernel_rfl) ?_
  go_wp2
  (try simp only [Exit.inBlock,Exit.then])
  refine bodyPost_ret (results_cell_row rfl _ _ (w.heap.size+1) 39 #[.int .i64 op,.int .i64 id,.int .i64 y0,.int .i64 ty,.slice Aa y1.length ca,.slice At y2.length ct,.string nm,.int .i64 at_] (0,0) _ rfl HE.out.1 Try.underlying39 rfl (by kernel_rfl)) rfl ?_
  exact ⟨_,_,rfl,HE.out.2.1,HE.out.2.2.1,HE.out.2.2.2.1,HE.out.2.2.2.2⟩
end Go.Proofs.Ytkjdblbgmomieaa.PSh
end
