import Derived.Test.YtkjdblbgmomieaaMr2
import Derived.Test.YtkjdblbgmomieaaMr3
import Derived.Test.YtkjdblbgmomieaaMr21
import Derived.Test.YtkjdblbgmomieaaMr10
-- from YtkjdblbgmomieaaPShx5
section
namespace Go.Proofs.Ytkjdblbgmomieaa.PSh
set_option maxHeartbeats 8000000
set_option maxRecDepth 100000
open Go.RowKit Go.Proofs.YtkjdblbgmomieaaW.PrintWords Go.Proofs.YtkjdblbgmomieaaW.PrintLast Go.Proofs.YtkjdblbgmomieaaW.PrintMore Go.Proofs.Ytkjdblbgmomieaa.Zip
attribute [local go_sem] max2_int min2_int max_two min_two max_three min_three max_four min_four   -- for this text's walks alone
set_option linter.unusedVariables false
set_option linter.unusedSimpArgs false
def r03_power.l0:Nat→Int→Int→Int→Option (Int)
 | 0,_,_,_=>none
 | k+1,x0,x3,x4=>if x4<x0 then (r03_power.l0 k x0 (wrap64 (x3 * 2)) (wrap64 (x4+1))) else (some x3)
def r03_power.f (k:Nat) (a0:Int):Option (Int):=r03_power.l0 k a0 1 0
theorem r03_power.calls (k:Nat) (a0:Int) (r:Int) (w:World) (h:r03_power.f k a0=some r):
  Calls Try.prog 73 #[.int .i64 a0] w fun e w'=>e=.returned (.int .i64 r)∧Drawn0 w w':=by
 have H:(r03_power.l0 k a0 1 0)=some r:=h
 clear h
 have H':=aM H
 clear H
 go_enter Try.func73,Try.ntmps73
 go_wp2
 go_loopg [3,4] k (fun kq v3 v4 w'=>∃ (x3_1:Int) (x4_1:Int),v3=.int .i64 x3_1∧v4=.int .i64 x4_1∧Aside0 (r03_power.l0 kq a0 x3_1 x4_1=some r)∧Aside0 (kq≤k)∧Drawn0 w w')
 case atStart=>exact ⟨(1),(0),(by first | rfl | (simp;done) | (simp [*];done)),(by first | rfl | (simp;done) | (simp [*];done)),H',⟨Nat.le_refl _⟩,zQ⟩
 case round=>
  clear H'
  obtain ⟨x3_1,x4_1,rfl,rfl,HA,HK1,⟨m1,rfl⟩⟩:=hrel
  cases gk with
  | zero=>exact absurd HA.out (by simp [r03_power.l0])
  | succ k1=>
   have H:=HA.out
   clear HA
   simp only [r03_power.l0] at H
   by_cases c2:x4_1<a0
   ·rw [if_pos c2] at H
    have c2b0:decide (x4_1<a0)=true:=decide_eq_true c2
    clear c2
    have H':=aM H
    clear H
    go_wp2
    go_roundg k1
    case measure=>have:=HK1.out;omega
    case rel=>exact ⟨(wrap64 (x3_1 * 2)),(wrap64 (x4_1+1)),(by first | rfl | (simp;done) | (simp [*];done)),(by first | rfl | (simp;done) | (simp [*];done)),H',⟨by have:=HK1.out;omega⟩,zQ⟩
   ·rw [if_neg c2] at H
    have c2b0:decide (x4_1<a0)=false:=decide_eq_false c2
    clear c2
    obtain rfl:=Option.some.inj H
    go_wp2
    go_ret
    exact ⟨by first | rfl | (simp;done) | (simp [*];done),zQ⟩
mutual
def r03_Parse.j0:Nat→ByteArray→Bool→Option (Int × Int × Int)
 | 0,_,_=>none
 | k+1,x0,x15=>if x15=true then (some (0,0,16)) else (r03_Parse.l0 k x0 0 0)
def r03_Parse.l0:Nat→ByteArray→Int→Int→Option (Int × Int × Int)
 | 0,_,_,_=>none
 | k+1,x0,x4,x5=>if x5<(x0.size:Int) then (if 0≤x5 then (if (bt x0 x5)=105 then (r03_Parse.j2 k x0 x4 x5 false) else (r03_Parse.j2 k x0 x4 x5 ((bt x0 x5) !=112))) else (none)) else (some ((x0.size:Int),x4,0))
def r03_Parse.j2:Nat→ByteArray→Int→Int→Bool→Option (Int × Int × Int)
 | 0,_,_,_,_=>none
 | k+1,x0,x4,x5,x32=>if x32=true then (some (0,0,16)) else (if 0≤x5 then (if x5<(x0.size:Int) then (if (bt x0 x5)=112 then ((r03_power.f k x5).bind fun t144=>(r03_Parse.l0 k x0 (wrap64 (x4+t144)) (wrap64 (x5+1)))) else (r03_Parse.l0 k x0 x4 (wrap64 (x5+1)))) else (none)) else (none))
end
def r03_Parse.f (k:Nat) (a0:ByteArray):Option (Int × Int × Int):=if a0.toList=([46]:List UInt8) then (some (0,0,0)) else (if a0.toList=([]:List UInt8) then (r03_Parse.j0 k a0 true) else (r03_Parse.j0 k a0 (decide ((a0.size:Int)>16))))
theorem r03_Parse.calls (k:Nat) (a0:ByteArray) (r1:Int) (r2:Int) (r3:Int) (w:World) (h:r03_Parse.f k a0=some (r1,r2,r3)):
  Calls Try.prog 53 #[.string a0] w fun e w'=>e=.returned (.tuple #[.agg #[.int .i64 r1,.int .i64 r2],.int .i64 r3])∧Below w.heap.size w w':=by
 have HB:=aM (Below.refl w.heap.size w)
 have H:(if a0.toList=([46]:List UInt8) then (some (0,0,0)) else (if a0.toList=([]:List UInt8) then (r03_Parse.j0 k a0 true) else (r03_Parse.j0 k a0 (decide ((a0.size:Int)>16)))))=some (r1,r2,r3):=h
 clear h
 by_cases c2:a0.toList=([46]:List UInt8)
 ·rw [if_pos c2] at H
  have c2b0:(a0.toList==([46]:List UInt8))=true:=beq_iff_eq.mpr c2
  clear c2
  simp only [Option.some.injEq,Prod.mk.injEq] at H
  obtain ⟨rfl,rfl,rfl⟩:=H
  go_enter Try.func53,Try.ntmps53
  go_wp2_with (first | ((with_reducible refine gate_dst (N:=2) rfl ?_);(try (refine gate_guard (by rfl) ?_;dsimp only));refine box_event ?hg (N:=2) ?hd (cs:=#[.int .i64 0,.int .i64 0]) (t:=73) ?hr ?_;(case hd=>rfl);(case hg=>rfl);(case hr=>first | (go_simp;done) | (go_simp;rfl));intro gb143 hg w3 hbox hb;have n0_:=aM (below_step (zB HB.out) hb);have n1_:=aM (hbox);have n2_:=aM ((by rw [hg];exact (below_size (zB HB.out)):w.heap.size≤gb143));have n3_:=aM ((by rw [hg];exact (below_size (zB HB.out)):w.heap.size≤gb143));clear HB;have HB:=n0_;have BK143:=n1_;have GE143:=n3_;clear n0_ n1_ n2_ n3_;clear hb hbox hg;have hcz4_0:w3.cell? ⟨gb143,0,none⟩=some (.int .i64 0):=(blk_cell BK143.out 0).trans rfl;have hcz4_1:w3.cell? ⟨gb143,1,none⟩=some (.int .i64 0):=(blk_cell BK143.out 1).trans rfl;have hfz4_0:=blk_frozen BK143.out 0;have hfz4_1:=blk_frozen BK143.out 1))
  refine bodyPost_ret (results_ct rfl _ _ gb143 73 #[.int .i64 0,.int .i64 0] (0,0) _ rfl (by (with_reducible repeat (first | refine blk_drewN ?_ _ | refine blk_drew ?_ | refine blk_alloc ?_ _));refine blk_put (cs:=#[.int .i64 0,.int .i64 0]) ?_ 1 _ rfl;(with_reducible repeat (first | refine blk_drewN ?_ _ | refine blk_drew ?_ | refine blk_alloc ?_ _));refine blk_put (cs:=#[.int .i64 0,.int .i64 0]) ?_ 0 _ rfl;(with_reducible repeat (first | refine blk_drewN ?_ _ | refine blk_drew ?_ | refine blk_alloc ?_ _));exact BK143.out) Try.underlying73 rfl (by kernel_rfl)) rfl ?_
  exact ⟨zF,zC HB.out GE143.out⟩
 ·rw [if_neg c2] at H
  have c2b0:(a0.toList==([46]:List UInt8))=false:=beq_eq_false_iff_ne.mpr c2
  have HC5:=aM H
  clear H
  go_enter Try.func53,Try.ntmps53
  go_upto_region 3 with (first | ((with_reducible refine gate_dst (N:=2) rfl ?_);(try (refine gate_guard (by rfl) ?_;dsimp only));refine box_event ?hg (N:=2) ?hd (cs:=#[.int .i64 0,.int .i64 0]) (t:=73) ?hr ?_;(case hd=>rfl);(case hg=>rfl);(case hr=>first | (go_simp;done) | (go_simp;rfl));intro gb143 hg w6 hbox hb;have n0_:=aM (below_step (zB HB.out) hb);have n1_:=aM (hbox);have n2_:=aM ((by rw [hg];exact (below_size (zB HB.out)):w.heap.size≤gb143));have n3_:=aM ((by rw [hg];exact (below_size (zB HB.out)):w.heap.size≤gb143));clear HB;have HB:=n0_;have BK143:=n1_;have GE143:=n3_;clear n0_ n1_ n2_ n3_;clear hb hbox hg))
  (try simp only [Act.put,qA,qB,qC])
  go_cut [15] (fun v15 wc=>∃ (kq:Nat) (x15_4:Bool),v15=.bool x15_4∧Aside0 (r03_Parse.j0 kq a0 x15_4=some (r1,r2,r3))∧Aside0 (kq≤k)∧Aside0 (wc.heap[gb143]?=some (.cells #[.int .i64 0,.int .i64 0] 73 (0,0)))∧Aside0 (Below w.heap.size w wc))
  case first=>
   have H:=HC5.out
   clear HC5
   by_cases c7:a0.toList=([]:List UInt8)
   ·rw [if_pos c7] at H
    have c7b0:(a0.toList==([]:List UInt8))=true:=beq_iff_eq.mpr c7
    clear c7
    (first | rw [c7b0] | (simp only [i64_w,i32_w];rw [c7b0]) | skip)
    have H':=aM H
    clear H
    go_wp2
    go_meet
    case rel=>exact ⟨_,(true),(by first | rfl | (simp;done) | (simp [*];done)),H',⟨by first | omega | exact Nat.le_refl _⟩,⟨zK BK143.out⟩,⟨zC HB.out GE143.out⟩⟩
   ·rw [if_neg c7] at H
    have c7b0:(a0.toList==([]:List UInt8))=false:=beq_eq_false_iff_ne.mpr c7
    (first | rw [c7b0] | (simp only [i64_w,i32_w];rw [c7b0]) | skip)
    have H':=aM H
    clear H
    go_wp2
    go_meet
    case rel=>exact ⟨_,(decide ((a0.size:Int)>16)),(by first | rfl | (simp;done) | (simp [*];done)),H',⟨by first | omega | exact Nat.le_refl _⟩,⟨zK BK143.out⟩,⟨zC HB.out GE143.out⟩⟩
  case rest=>
   clear HC5 c2 c2b0
   obtain ⟨kq,x15_4,rfl,HA,HJ4,BK143,HB⟩:=hcut
   cases kq with
   | zero=>exact absurd HA.out (by simp [r03_Parse.j0])
   | succ kj4=>
    have H:=HA.out
    clear HA
    simp only [r03_Parse.j0] at H
    by_cases c8:x15_4=true
    ·subst c8
     have H1:(some (0,0,16))=some (r1,r2,r3):=by rw [if_pos rfl] at H;exact H
     clear H
     have H:=H1
     clear H1
     simp only [Option.some.injEq,Prod.mk.injEq] at H
     obtain ⟨rfl,rfl,rfl⟩:=H
     have hcz9_0:wc.cell? ⟨gb143,0,none⟩=some (.int .i64 0):=(blk_cell BK143.out 0).trans rfl
     have hcz9_1:wc.cell? ⟨gb143,1,none⟩=some (.int .i64 0):=(blk_cell BK143.out 1).trans rfl
     have hfz9_0:=blk_frozen BK143.out 0
     have hfz9_1:=blk_frozen BK143.out 1
     go_wp2
     refine bodyPost_ret (results_ct rfl _ _ gb143 73 #[.int .i64 0,.int .i64 0] (0,0) _ rfl (by (with_reducible repeat (first | refine blk_drewN ?_ _ | refine blk_drew ?_ | refine blk_alloc ?_ _));refine blk_put (cs:=#[.int .i64 0,.int .i64 0]) ?_ 1 _ rfl;(with_reducible repeat (first | refine blk_drewN ?_ _ | refine blk_drew ?_ | refine blk_alloc ?_ _));refine blk_put (cs:=#[.int .i64 0,.int .i64 0]) ?_ 0 _ rfl;(with_reducible repeat (first | refine blk_drewN ?_ _ | refine blk_drew ?_ | refine blk_alloc ?_ _));exact BK143.out) Try.underlying73 rfl (by kernel_rfl)) rfl ?_
     exact ⟨zF,zC HB.out GE143.out⟩
    ·replace c8:=Bool.eq_false_iff.mpr c8
     subst c8
     have H1:(r03_Parse.l0 kj4 a0 0 0)=some (r1,r2,r3):=by rw [if_neg (show ¬ (false=true) by decide)] at H;exact H
     clear H
     have H:=H1
     clear H1
     have H':=aM H
     clear H
     go_wp2
     go_loopg [4,5] kj4 (fun kq v4 v5 w'=>∃ (x4_2:Int) (x5_2:Int) (x144000_2:Int) (x144001_2:Int),v4=.int .i64 x4_2∧v5=.int .i64 x5_2∧Aside0 (r03_Parse.l0 kq a0 x4_2 x5_2=some (r1,r2,r3))∧Aside0 (kq≤kj4)∧Aside0 (w'.heap[gb143]?=some (.cells #[.int .i64 x144000_2,.int .i64 x144001_2] 73 (0,0)))∧Aside0 (Below w.heap.size w w'))
     case atStart=>exact ⟨(0),(0),(0),(0),(by first | rfl | (simp;done) | (simp [*];done)),(by first | rfl | (simp;done) | (simp [*];done)),H',⟨Nat.le_refl _⟩,⟨zK BK143.out⟩,⟨zC HB.out GE143.out⟩⟩
     case round=>
      clear H'
      obtain ⟨x4_2,x5_2,x144000_2,x144001_2,rfl,rfl,HA,HK2,BK143,HB⟩:=hrel
      cases gk with
      | zero=>exact absurd HA.out (by simp [r03_Parse.l0])
      | succ k2=>
       have H:=HA.out
       clear HA
       simp only [r03_Parse.l0] at H
       by_cases c10:x5_2<(a0.size:Int)
       ·rw [if_pos c10] at H
        have c10b0:decide (x5_2<(a0.size:Int))=true:=decide_eq_true c10
        clear c10
        have HC11:=aM H
        clear H
        go_upto_region 9 with (fail)
        go_cut [32] (fun v32 wc=>∃ (kq:Nat) (x32_10:Bool),v32=.bool x32_10∧Aside0 (r03_Parse.j2 kq a0 x4_2 x5_2 x32_10=some (r1,r2,r3))∧Aside0 (kq≤k2)∧Aside0 (wc.heap[gb143]?=some (.cells #[.int .i64 x144000_2,.int .i64 x144001_2] 73 (0,0)))∧Aside0 (Below w.heap.size w wc))
        case first=>
         have H:=HC11.out
         clear HC11
         by_cases c12:0≤x5_2
         ·rw [if_pos c12] at H
          have c12b0:decide (0≤x5_2)=true:=decide_eq_true c12
          clear c12
          (first | rw [c12b0] | (simp only [i64_w,i32_w];rw [c12b0]) | skip)
          by_cases c14:(bt a0 x5_2)=105
          ·rw [if_pos c14] at H
           have c14b1:((bt a0 x5_2) !=105)=false:=bne_eq_false_iff_eq.mpr c14
           clear c14
           have H':=aM H
           clear H
           have p13:0≤(x5_2:Int):=of_decide_eq_true zS
           have q13:x5_2<(a0.size:Int):=of_decide_eq_true zS
           have hx13:=bt_at a0 x5_2
           replace p13:=eq_true p13
           replace q13:=eq_true q13
           go_wp2
           go_meet
           case rel=>exact ⟨_,(false),(by first | rfl | (simp;done) | (simp [*];done)),H',⟨by have:=HJ4.out;have:=HK2.out;first | omega | exact Nat.le_refl _⟩,⟨zK BK143.out⟩,⟨zC HB.out GE143.out⟩⟩
          ·rw [if_neg c14] at H
           have c14b1:((bt a0 x5_2) !=105)=true:=bne_iff_ne.mpr c14
           have H':=aM H
           clear H
           have p13:0≤(x5_2:Int):=of_decide_eq_true zS
           have q13:x5_2<(a0.size:Int):=of_decide_eq_true zS
           have hx13:=bt_at a0 x5_2
           replace p13:=eq_true p13
           replace q13:=eq_true q13
           have p15:0≤(x5_2:Int):=of_decide_eq_true zS
           have q15:x5_2<(a0.size:Int):=of_decide_eq_true zS
           replace p15:=eq_true p15
           replace q15:=eq_true q15
           go_wp2
           go_meet
           case rel=>exact ⟨_,(((bt a0 x5_2) !=112)),(by first | rfl | (simp;done) | (simp [*];done)),H',⟨by have:=HJ4.out;have:=HK2.out;first | omega | exact Nat.le_refl _⟩,⟨zK BK143.out⟩,⟨zC HB.out GE143.out⟩⟩
         ·rw [if_neg c12] at H
          exact absurd H (by simp)
        case rest=>
         clear HC11 c10b0
         obtain ⟨kq,x32_10,rfl,HA,HJ10,BK143,HB⟩:=hcut
         cases kq with
         | zero=>exact absurd HA.out (by simp [r03_Parse.j2])
         | succ kj10=>
          have H:=HA.out
          clear HA
          simp only [r03_Parse.j2] at H
          by_cases c16:x32_10=true
          ·subst c16
           have H1:(some (0,0,16))=some (r1,r2,r3):=by rw [if_pos rfl] at H;exact H
           clear H
           have H:=H1
           clear H1
           simp only [Option.some.injEq,Prod.mk.injEq] at H
           obtain ⟨rfl,rfl,rfl⟩:=H
           have hcz17_0:wc.cell? ⟨gb143,0,none⟩=some (.int .i64 x144000_2):=(blk_cell BK143.out 0).trans rfl
           have hcz17_1:wc.cell? ⟨gb143,1,none⟩=some (.int .i64 x144001_2):=(blk_cell BK143.out 1).trans rfl
           have hfz17_0:=blk_frozen BK143.out 0
           have hfz17_1:=blk_frozen BK143.out 1
           go_wp2
           refine bodyPost_ret (results_ct rfl _ _ gb143 73 #[.int .i64 0,.int .i64 0] (0,0) _ rfl (by (with_reducible repeat (first | refine blk_drewN ?_ _ | refine blk_drew ?_ | refine blk_alloc ?_ _));refine blk_put (cs:=#[.int .i64 0,.int .i64 x144001_2]) ?_ 1 _ rfl;(with_reducible repeat (first | refine blk_drewN ?_ _ | refine blk_drew ?_ | refine blk_alloc ?_ _));refine blk_put (cs:=#[.int .i64 x144000_2,.int .i64 x144001_2]) ?_ 0 _ rfl;(with_reducible repeat (first | refine blk_drewN ?_ _ | refine blk_drew ?_ | refine blk_alloc ?_ _));exact BK143.out) Try.underlying73 rfl (by kernel_rfl)) rfl ?_
           exact ⟨zF,zC HB.out GE143.out⟩
          ·replace c16:=Bool.eq_false_iff.mpr c16
           subst c16
           have H1:(if 0≤x5_2 then (if x5_2<(a0.size:Int) then (if (bt a0 x5_2)=112 then ((r03_power.f kj10 x5_2).bind fun t144=>(r03_Parse.l0 kj10 a0 (wrap64 (x4_2+t144)) (wrap64 (x5_2+1)))) else (r03_Parse.l0 kj10 a0 x4_2 (wrap64 (x5_2+1)))) else (none)) else (none))=some (r1,r2,r3):=by rw [if_neg (show ¬ (false=true) by decide)] at H;exact H
           clear H
           have H:=H1
           clear H1
           by_cases c18:0≤x5_2
           ·rw [if_pos c18] at H
            have c18b0:decide (0≤x5_2)=true:=decide_eq_true c18
            clear c18
            by_cases c19:x5_2<(a0.size:Int)
            ·rw [if_pos c19] at H
             have c19b0:decide (x5_2<(a0.size:Int))=true:=decide_eq_true c19
             clear c19
             by_cases c21:(bt a0 x5_2)=112
             ·rw [if_pos c21] at H
              have c21b0:((bt a0 x5_2)==112)=true:=beq_iff_eq.mpr c21
              clear c21
              replace H:=Option.bind_eq_some_iff.mp H
              obtain ⟨t144,A220,H⟩:=H
              have A22:=aM A220
              clear A220
              have H':=aM H
              clear H
              have p20:0≤(x5_2:Int):=of_decide_eq_true zS
              have q20:x5_2<(a0.size:Int):=of_decide_eq_true zS
              have hx20:=bt_at a0 x5_2
              replace p20:=eq_true p20
              replace q20:=eq_true q20
              go_wp2_with (first | ((with_reducible refine gate_callee (f:=73) rfl ?_);refine goesL_ (some 40) rfl rfl Try.func73 (by kernel_rfl) rfl #[.int .i64 x5_2] rfl zA ?_;(with_reducible refine (r03_power.calls kj10 x5_2 t144 _ A22.out).mono ?_);rintro e w' ⟨rfl,⟨nd,rfl⟩⟩;refine ⟨_,rfl,?_⟩))
              go_roundg kj10
              case measure=>have:=HJ4.out;have:=HK2.out;have:=HJ10.out;omega
              case rel=>exact ⟨(wrap64 (x4_2+t144)),(wrap64 (x5_2+1)),(x144000_2),(x144001_2),(by first | rfl | (simp;done) | (simp [*];done)),(by first | rfl | (simp;done) | (simp [*];done)),H',⟨by have:=HJ4.out;have:=HK2.out;have:=HJ10.out;omega⟩,⟨zK BK143.out⟩,⟨zC HB.out GE143.out⟩⟩
             ·rw [if_neg c21] at H
              have c21b0:((bt a0 x5_2)==112)=false:=beq_eq_false_iff_ne.mpr c21
              have H':=aM H
              clear H
              have p20:0≤(x5_2:Int):=of_decide_eq_true zS
              have q20:x5_2<(a0.size:Int):=of_decide_eq_true zS
              have hx20:=bt_at a0 x5_2
              replace p20:=eq_true p20
              replace q20:=eq_true q20
              go_wp2
              go_roundg kj10
              case measure=>have:=HJ4.out;have:=HK2.out;have:=HJ10.out;omega
              case rel=>exact ⟨(x4_2),(wrap64 (x5_2+1)),(x144000_2),(x144001_2),(by first | rfl | (simp;done) | (simp [*];done)),(by first | rfl | (simp;done) | (simp [*];done)),H',⟨by have:=HJ4.out;have:=HK2.out;have:=HJ10.out;omega⟩,⟨zK BK143.out⟩,⟨zC HB.out GE143.out⟩⟩
            ·rw [if_neg c19] at H
             exact absurd H (by simp)
           ·rw [if_neg c18] at H
            exact absurd H (by simp)
       ·rw [if_neg c10] at H
        have c10b0:decide (x5_2<(a0.size:Int))=false:=decide_eq_false c10
        clear c10
        simp only [Option.some.injEq,Prod.mk.injEq] at H
        obtain ⟨rfl,rfl,rfl⟩:=H
        have hcz23_0:wr.cell? ⟨gb143,0,none⟩=some (.int .i64 x144000_2):=(blk_cell BK143.out 0).trans rfl
        have hcz23_1:wr.cell? ⟨gb143,1,none⟩=some (.int .i64 x144001_2):=(blk_cell BK143.out 1).trans rfl
        have hfz23_0:=blk_frozen BK143.out 0
        have hfz23_1:=blk_frozen BK143.out 1
        go_wp2
        refine bodyPost_ret (results_ct rfl _ _ gb143 73 #[.int .i64 (a0.size:Int),.int .i64 x4_2] (0,0) _ rfl (by (with_reducible repeat (first | refine blk_drewN ?_ _ | refine blk_drew ?_ | refine blk_alloc ?_ _));refine blk_put (cs:=#[.int .i64 (a0.size:Int),.int .i64 x144001_2]) ?_ 1 _ rfl;(with_reducible repeat (first | refine blk_drewN ?_ _ | refine blk_drew ?_ | refine blk_alloc ?_ _));refine blk_put (cs:=#[.int .i64 x144000_2,.int .i64 x144001_2]) ?_ 0 _ rfl;(with_reducible repeat (first | refine blk_drewN ?_ _ | refine blk_drew ?_ | refine blk_alloc ?_ _));exact BK143.out) Try.underlying73 rfl (by kernel_rfl)) rfl ?_
        exact ⟨zF,zC HB.out GE143.out⟩
end Go.Proofs.Ytkjdblbgmomieaa.PSh
end
-- from YtkjdblbgmomieaaRShp
section
namespace Go.Proofs.Ytkjdblbgmomieaa.PSh
open Go.RowKit Go.Proofs.YtkjdblbgmomieaaW.PrintWords Go.Proofs.YtkjdblbgmomieaaW.PrintLast Go.Proofs.YtkjdblbgmomieaaW.PrintMore Go.Proofs.Ytkjdblbgmomieaa.Str
set_option linter.unusedVariables false
set_option linter.unusedSimpArgs false
theorem rs_power_ev (e:Int):∀ (m:Nat) (a i:Int),0≤i→e≤16→(e - i).toNat=m→∃ r,Ev (fun k=>r03_power.l0 k e a i) r:=by
  intro m
  induction m with
  | zero=>
    intro a i h0 h1 hm
    exact ⟨a,Ev.step (f:=fun _=>some a) (fun k=>by simp only [r03_power.l0];rw [if_neg (by omega)]) (Ev.now _)⟩
  | succ m ih=>
    intro a i h0 h1 hm
    obtain ⟨r,hr⟩:=ih (wrap64 (a * 2)) (i+1) (by omega) h1 (by omega)
    exact ⟨r,Ev.step (f:=fun k=>r03_power.l0 k e (wrap64 (a * 2)) (i+1)) (fun k=>by simp only [r03_power.l0];rw [if_pos (by omega),w64 (x:=i+1) (by omega) (by omega)]) hr⟩
theorem rs_parse_loop:∀ (rest pre:List UInt8) (m:Int),(pre++rest).length≤16→∃ r,Ev (fun k=>r03_Parse.l0 k (mk (pre++rest)) m (pre.length:Int)) r∧r.2.2=if rest.all shpOk=true then 0 else 16:=by
  intro rest
  induction rest with
  | nil=>
    intro pre m _
    exact ⟨_,Ev.step (f:=fun _=>some (((mk (pre++[])).size:Int),m,0)) (fun k=>by simp only [r03_Parse.l0];rw [if_neg (by rw [mk_size];simp)]) (Ev.now _),rfl⟩
  | cons c rest ih=>
    intro pre m hl
    have hsz:(pre.length:Int)<((mk (pre++c::rest)).size:Int):=by rw [mk_size];simp;omega
    have hw:wrap64 ((pre.length:Int)+1)=((pre++[c]).length:Int):=by
      rw [w64 (by omega) (by simp at hl;omega)];simp
    have hpre:pre++c::rest=(pre++[c])++rest:=by simp
    have q1:(((c.toNat:Nat):Int)=105)=(c=105):=by
      apply propext
      constructor
      · intro h;exact UInt8.toNat_inj.mp (by show c.toNat=105;omega)
      · rintro rfl;rfl
    have q2:(((c.toNat:Nat):Int)=112)=(c=112):=by
      apply propext
      constructor
      · intro h;exact UInt8.toNat_inj.mp (by show c.toNat=112;omega)
      · rintro rfl;rfl
    have q3:((((c.toNat:Nat):Int)) !=112)=(c !=112):=by
      by_cases h:c=112
      · subst h;rfl
      · rw [bne_iff_ne.mpr h]
        exact bne_iff_ne.mpr (by rw [Ne,q2];exact h)
    have step:∀ b:Bool,Ev (fun k=>r03_Parse.j2 k (mk (pre++c::rest)) m (pre.length:Int) true) (0,0,16):=fun b=>Ev.step (f:=fun _=>some (0,0,16)) (fun k=>by simp only [r03_Parse.j2];rw [if_pos trivial]) (Ev.now _)
    by_cases h1:c=105
    · obtain ⟨r,hr,er⟩:=ih (pre++[c]) m (by rw [← hpre];exact hl)
      refine ⟨r,Ev.step (f:=fun k=>r03_Parse.j2 k (mk (pre++c::rest)) m (pre.length:Int) false) (fun k=>?_) (Ev.step (f:=fun k=>r03_Parse.l0 k (mk ((pre++[c])++rest)) m ((pre++[c]).length:Int)) (fun k=>?_) hr),?_⟩
      · simp only [r03_Parse.l0]
        rw [if_pos hsz,if_pos (by omega),bt_pre,if_pos (q1.mpr h1)]
      · simp only [r03_Parse.j2]
        rw [if_neg (by decide),if_pos (by omega),if_pos hsz,bt_pre,if_neg (by rw [q2,h1];decide),hw,← hpre]
      · rw [er,List.all_cons,show shpOk c=true by subst h1;rfl,Bool.true_and]
    · by_cases h2:c=112
      · obtain ⟨p,hp⟩:=rs_power_ev (pre.length:Int) _ 1 0 (by omega) (by simp at hl;omega) rfl
        obtain ⟨r,hr,er⟩:=ih (pre++[c]) (wrap64 (m+p)) (by rw [← hpre];exact hl)
        refine ⟨r,Ev.step (f:=fun k=>r03_Parse.j2 k (mk (pre++c::rest)) m (pre.length:Int) false) (fun k=>?_) (Ev.step (f:=fun k=>(r03_power.f k (pre.length:Int)).bind fun t144=>r03_Parse.l0 k (mk ((pre++[c])++rest)) (wrap64 (m+t144)) ((pre++[c]).length:Int)) (fun k=>?_) (Ev.bind hp hr)),?_⟩
        · simp only [r03_Parse.l0]
          rw [if_pos hsz,if_pos (by omega),bt_pre,if_neg (by rw [q1];exact h1),q3,h2]
          rfl
        · simp only [r03_Parse.j2]
          rw [if_neg (by decide),if_pos (by omega),if_pos hsz,bt_pre,if_pos (q2.mpr h2),hw,← hpre]
        · rw [er,List.all_cons,show shpOk c=true by subst h2;rfl,Bool.true_and]
      · refine ⟨(0,0,16),Ev.step (f:=fun k=>r03_Parse.j2 k (mk (pre++c::rest)) m (pre.length:Int) true) (fun k=>?_) (step true),?_⟩
        · simp only [r03_Parse.l0]
          rw [if_pos hsz,if_pos (by omega),bt_pre,if_neg (by rw [q1];exact h1),q3,bne_iff_ne.mpr h2]
        · rw [List.all_cons,show shpOk c=false by unfold shpOk;rw [beq_eq_false_iff_ne.mpr h1,beq_eq_false_iff_ne.mpr h2];rfl,Bool.false_and]
          rfl
theorem rs_rparse_ev (nm:ByteArray):∃ r,Ev (fun k=>r03_Parse.f k nm) r∧r.2.2=shpCode nm:=by
  unfold r03_Parse.f shpCode
  by_cases h1:nm.toList=([46]:List UInt8)
  · exact ⟨(0,0,0),by simp only [if_pos h1];exact Ev.now _,by rw [if_pos h1]⟩
  · simp only [if_neg h1]
    have j1:Ev (fun k=>r03_Parse.j0 k nm true) (0,0,16):=Ev.step (f:=fun _=>some (0,0,16)) (fun k=>by simp only [r03_Parse.j0];rw [if_pos trivial]) (Ev.now _)
    by_cases h2:nm.toList=([]:List UInt8)
    · have hs:nm.size=0:=by
        rw [toList_eq] at h2
        rw [size_data,h2]
        rfl
      exact ⟨(0,0,16),by simp only [if_pos h2];exact j1,by rw [if_neg (by omega)]⟩
    · simp only [if_neg h2]
      have hs:1≤nm.size:=by
        rw [toList_eq] at h2
        rw [size_data]
        exact List.length_pos_iff.mpr h2
      by_cases h3:(nm.size:Int)>16
      · exact ⟨(0,0,16),by simp only [decide_eq_true h3];exact j1,by rw [if_neg (by omega)]⟩
      · obtain ⟨r,hr,er⟩:=rs_parse_loop nm.data.toList [] 0 (by have:=size_data nm;simp;omega)
        refine ⟨r,?_,?_⟩
        · simp only [decide_eq_false h3]
          refine Ev.step (f:=fun k=>r03_Parse.l0 k nm 0 0) (fun k=>by simp only [r03_Parse.j0];rw [if_neg (by decide)]) ?_
          rw [List.nil_append,← mk_data] at hr
          exact hr
        · rw [er]
          symm
          rw [if_pos ⟨hs,by omega⟩]
end Go.Proofs.Ytkjdblbgmomieaa.PSh
end
-- from YtkjdblbgmomieaaPShx24
section
namespace Go.Proofs.Ytkjdblbgmomieaa.PSh
set_option maxHeartbeats 8000000
set_option maxRecDepth 100000
open Go.RowKit Go.Proofs.YtkjdblbgmomieaaW.PrintWords Go.Proofs.YtkjdblbgmomieaaW.PrintLast Go.Proofs.YtkjdblbgmomieaaW.PrintMore Go.Proofs.Ytkjdblbgmomieaa.Zip
attribute [local go_sem] max2_int min2_int max_two min_two max_three min_three max_four min_four   -- for this text's walks alone
set_option linter.unusedVariables false
set_option linter.unusedSimpArgs false
mutual
def r06_letters.j0:Nat→Int→Int→Bool→Option (ByteArray)
 | 0,_,_,_=>none
 | k+1,x0,x5,x6=>if x6=true then (some (⟨#[118,115]⟩:ByteArray)) else (if x5=13 then (r06_letters.j1 k x0 x5 (x5==13)) else (r06_letters.j1 k x0 x5 (x5==14)))
def r06_letters.j1:Nat→Int→Int→Bool→Option (ByteArray)
 | 0,_,_,_=>none
 | k+1,x0,x5,x10=>if x10=true then (some (⟨#[118,115,118]⟩:ByteArray)) else (if x5=23 then (some (⟨#[110]⟩:ByteArray)) else (if x5=24 then (some (⟨#[118,110]⟩:ByteArray)) else (if x5=26 then (some (⟨#[108]⟩:ByteArray)) else (if x5=27 then (some (⟨#[118,108,108]⟩:ByteArray)) else (r06_letters.l0 k x0 (⟨#[]⟩:ByteArray) 0)))))
def r06_letters.l0:Nat→Int→ByteArray→Int→Option (ByteArray)
 | 0,_,_,_=>none
 | k+1,x0,x3,x4=>(r05_Takes.f k x0).bind fun t392=>(if x4<(t392.length:Int) then (if x3.size+1≤9223372036854775807 then (r06_letters.l0 k x0 (x3++(⟨#[118]⟩:ByteArray)) (wrap64 (x4+1))) else (none)) else (some x3))
end
def r06_letters.f (k:Nat) (a0:Int):Option (ByteArray):=if a0=11 then (r06_letters.j0 k a0 a0 (a0==11)) else (if a0=12 then (r06_letters.j0 k a0 a0 (a0==12)) else (r06_letters.j0 k a0 a0 (a0==15)))
theorem r06_letters.calls (k:Nat) (a0:Int) (r:ByteArray) (w:World) (h:r06_letters.f k a0=some r):
  Calls Try.prog 115 #[.int .i64 a0] w fun e w'=>e=.returned (.string r)∧Below w.heap.size w w':=by
 have HB:=aM (Below.refl w.heap.size w)
 have H:(if a0=11 then (r06_letters.j0 k a0 a0 (a0==11)) else (if a0=12 then (r06_letters.j0 k a0 a0 (a0==12)) else (r06_letters.j0 k a0 a0 (a0==15))))=some r:=h
 clear h
 have HC2:=aM H
 clear H
 go_enter Try.func115,Try.ntmps115
 go_upto_if 6 with (fail)
 go_cut [6] (fun v6 wc=>∃ (kq:Nat) (x6_1:Bool),v6=.bool x6_1∧Aside0 (r06_letters.j0 kq a0 a0 x6_1=some r)∧Aside0 (kq≤k)∧Aside0 (Below w.heap.size w wc))
 case first=>
  have H:=HC2.out
  clear HC2
  by_cases c3:a0=11
  ·rw [if_pos c3] at H
   have c3b0:(a0==11)=true:=beq_iff_eq.mpr c3
   clear c3
   (first | rw [c3b0] | (simp only [i64_w,i32_w];rw [c3b0]) | skip)
   have H':=aM H
   clear H
   go_wp2
   go_meet
   case rel=>exact ⟨_,((a0==11)),(by first | rfl | (simp;done) | (simp [*];done)),H',⟨by first | omega | exact Nat.le_refl _⟩,⟨zB HB.out⟩⟩
  ·rw [if_neg c3] at H
   have c3b0:(a0==11)=false:=beq_eq_false_iff_ne.mpr c3
   (first | rw [c3b0] | (simp only [i64_w,i32_w];rw [c3b0]) | skip)
   by_cases c4:a0=12
   ·rw [if_pos c4] at H
    have c4b0:(a0==12)=true:=beq_iff_eq.mpr c4
    clear c4
    have H':=aM H
    clear H
    go_wp2
    go_meet
    case rel=>exact ⟨_,((a0==12)),(by first | rfl | (simp;done) | (simp [*];done)),H',⟨by first | omega | exact Nat.le_refl _⟩,⟨zB HB.out⟩⟩
   ·rw [if_neg c4] at H
    have c4b0:(a0==12)=false:=beq_eq_false_iff_ne.mpr c4
    have H':=aM H
    clear H
    go_wp2
    go_meet
    case rel=>exact ⟨_,((a0==15)),(by first | rfl | (simp;done) | (simp [*];done)),H',⟨by first | omega | exact Nat.le_refl _⟩,⟨zB HB.out⟩⟩
 case rest=>
  clear HC2
  obtain ⟨kq,x6_1,rfl,HA,HJ1,HB⟩:=hcut
  cases kq with
  | zero=>exact absurd HA.out (by simp [r06_letters.j0])
  | succ kj1=>
   have H:=HA.out
   clear HA
   simp only [r06_letters.j0] at H
   by_cases c5:x6_1=true
   ·subst c5
    have H1:(some (⟨#[118,115]⟩:ByteArray))=some r:=by rw [if_pos rfl] at H;exact H
    clear H
    have H:=H1
    clear H1
    obtain rfl:=Option.some.inj H
    go_wp2
    go_ret
    exact ⟨zF,zB HB.out⟩
   ·replace c5:=Bool.eq_false_iff.mpr c5
    subst c5
    have H1:(if a0=13 then (r06_letters.j1 kj1 a0 a0 (a0==13)) else (r06_letters.j1 kj1 a0 a0 (a0==14)))=some r:=by rw [if_neg (show ¬ (false=true) by decide)] at H;exact H
    clear H
    have H:=H1
    clear H1
    have HC6:=aM H
    clear H
    go_upto_if 10 with (fail)
    go_cut [10] (fun v10 wc=>∃ (kq:Nat) (x10_5:Bool),v10=.bool x10_5∧Aside0 (r06_letters.j1 kq a0 a0 x10_5=some r)∧Aside0 (kq≤kj1)∧Aside0 (Below w.heap.size w wc))
    case first=>
     have H:=HC6.out
     clear HC6
     by_cases c7:a0=13
     ·rw [if_pos c7] at H
      have c7b0:(a0==13)=true:=beq_iff_eq.mpr c7
      clear c7
      (first | rw [c7b0] | (simp only [i64_w,i32_w];rw [c7b0]) | skip)
      have H':=aM H
      clear H
      go_wp2
      go_meet
      case rel=>exact ⟨_,((a0==13)),(by first | rfl | (simp;done) | (simp [*];done)),H',⟨by have:=HJ1.out;first | omega | exact Nat.le_refl _⟩,⟨zB HB.out⟩⟩
     ·rw [if_neg c7] at H
      have c7b0:(a0==13)=false:=beq_eq_false_iff_ne.mpr c7
      (first | rw [c7b0] | (simp only [i64_w,i32_w];rw [c7b0]) | skip)
      have H':=aM H
      clear H
      go_wp2
      go_meet
      case rel=>exact ⟨_,((a0==14)),(by first | rfl | (simp;done) | (simp [*];done)),H',⟨by have:=HJ1.out;first | omega | exact Nat.le_refl _⟩,⟨zB HB.out⟩⟩
    case rest=>
     clear HC6
     obtain ⟨kq,x10_5,rfl,HA,HJ5,HB⟩:=hcut
     cases kq with
     | zero=>exact absurd HA.out (by simp [r06_letters.j1])
     | succ kj5=>
      have H:=HA.out
      clear HA
      simp only [r06_letters.j1] at H
      by_cases c8:x10_5=true
      ·subst c8
       have H1:(some (⟨#[118,115,118]⟩:ByteArray))=some r:=by rw [if_pos rfl] at H;exact H
       clear H
       have H:=H1
       clear H1
       obtain rfl:=Option.some.inj H
       go_wp2
       go_ret
       exact ⟨zF,zB HB.out⟩
      ·replace c8:=Bool.eq_false_iff.mpr c8
       subst c8
       have H1:(if a0=23 then (some (⟨#[110]⟩:ByteArray)) else (if a0=24 then (some (⟨#[118,110]⟩:ByteArray)) else (if a0=26 then (some (⟨#[108]⟩:ByteArray)) else (if a0=27 then (some (⟨#[118,108,108]⟩:ByteArray)) else (r06_letters.l0 kj5 a0 (⟨#[]⟩:ByteArray) 0)))))=some r:=by rw [if_neg (show ¬ (false=true) by decide)] at H;exact H
       clear H
       have H:=H1
       clear H1
       by_cases c9:a0=23
       ·rw [if_pos c9] at H
        have c9b0:(a0==23)=true:=beq_iff_eq.mpr c9
        clear c9
        obtain rfl:=Option.some.inj H
        go_wp2
        go_ret
        exact ⟨zF,zB HB.out⟩
       ·rw [if_neg c9] at H
        have c9b0:(a0==23)=false:=beq_eq_false_iff_ne.mpr c9
        by_cases c10:a0=24
        ·rw [if_pos c10] at H
         have c10b0:(a0==24)=true:=beq_iff_eq.mpr c10
         clear c10
         obtain rfl:=Option.some.inj H
         go_wp2
         go_ret
         exact ⟨zF,zB HB.out⟩
        ·rw [if_neg c10] at H
         have c10b0:(a0==24)=false:=beq_eq_false_iff_ne.mpr c10
         by_cases c11:a0=26
         ·rw [if_pos c11] at H
          have c11b0:(a0==26)=true:=beq_iff_eq.mpr c11
          clear c11
          obtain rfl:=Option.some.inj H
          go_wp2
          go_ret
          exact ⟨zF,zB HB.out⟩
         ·rw [if_neg c11] at H
          have c11b0:(a0==26)=false:=beq_eq_false_iff_ne.mpr c11
          by_cases c12:a0=27
          ·rw [if_pos c12] at H
           have c12b0:(a0==27)=true:=beq_iff_eq.mpr c12
           clear c12
           obtain rfl:=Option.some.inj H
           go_wp2
           go_ret
           exact ⟨zF,zB HB.out⟩
          ·rw [if_neg c12] at H
           have c12b0:(a0==27)=false:=beq_eq_false_iff_ne.mpr c12
           have H':=aM H
           clear H
           go_wp2
           go_loopg [3,4] kj5 (fun kq v3 v4 w'=>∃ (x3_3:ByteArray) (x4_3:Int),v3=.string x3_3∧v4=.int .i64 x4_3∧Aside0 (r06_letters.l0 kq a0 x3_3 x4_3=some r)∧Aside0 (kq≤kj5)∧Aside0 (Below w.heap.size w w'))
           case atStart=>exact ⟨((⟨#[]⟩:ByteArray)),(0),(by first | rfl | (simp;done) | (simp [*];done)),(by first | rfl | (simp;done) | (simp [*];done)),H',⟨Nat.le_refl _⟩,⟨zB HB.out⟩⟩
           case round=>
            clear H' c9 c9b0 c10 c10b0 c11 c11b0 c12 c12b0
            obtain ⟨x3_3,x4_3,rfl,rfl,HA,HK3,HB⟩:=hrel
            cases gk with
            | zero=>exact absurd HA.out (by simp [r06_letters.l0])
            | succ k3=>
             have H:=HA.out
             clear HA
             simp only [r06_letters.l0] at H
             replace H:=Option.bind_eq_some_iff.mp H
             obtain ⟨t392,A130,H⟩:=H
             have A13:=aM A130
             clear A130
             by_cases c14:x4_3<(t392.length:Int)
             ·rw [if_pos c14] at H
              have c14b0:decide (x4_3<(t392.length:Int))=true:=decide_eq_true c14
              clear c14
              by_cases c15:x3_3.size+1≤9223372036854775807
              ·rw [if_pos c15] at H
               try have c15b2:(9223372036854775807<x3_3.size+1)=False:=eq_false (Nat.not_lt.2 c15)
               have H':=aM H
               clear H
               go_wp2_with (first | ((with_reducible refine gate_callee (f:=72) rfl ?_);refine goesL_ (some 23) rfl rfl Try.func72 (by kernel_rfl) rfl #[.int .i64 a0] rfl zA ?_;(with_reducible refine (r05_Takes.calls k3 a0 t392 _ A13.out).mono ?_);rintro e w16 ⟨v393,rfl,ho0,hb⟩;refine ⟨_,rfl,?_⟩;have n0_:=aM (Kd.R_lower ho0 (below_size (zB HB.out)));have n1_:=aM (below_step (zB HB.out) hb);clear HB;have HO394:=n0_;have HB:=n1_;clear n0_ n1_;(try clear hb);(try clear hb2);(try clear hk);(try clear hi);(try clear ho0);obtain ⟨Ao17,co17,eo17⟩:=Kd.R_slice HO394.out;subst eo17))
               go_roundg k3
               case measure=>have:=HJ1.out;have:=HJ5.out;have:=HK3.out;omega
               case rel=>exact ⟨(x3_3++(⟨#[118]⟩:ByteArray)),(wrap64 (x4_3+1)),(by first | rfl | (simp;done) | (simp [*];done)),(by first | rfl | (simp;done) | (simp [*];done)),H',⟨by have:=HJ1.out;have:=HJ5.out;have:=HK3.out;omega⟩,⟨zB HB.out⟩⟩
              ·rw [if_neg c15] at H
               exact absurd H (by simp)
             ·rw [if_neg c14] at H
              have c14b0:decide (x4_3<(t392.length:Int))=false:=decide_eq_false c14
              clear c14
              obtain rfl:=Option.some.inj H
              go_wp2_with (first | ((with_reducible refine gate_callee (f:=72) rfl ?_);refine goesL_ (some 23) rfl rfl Try.func72 (by kernel_rfl) rfl #[.int .i64 a0] rfl zA ?_;(with_reducible refine (r05_Takes.calls k3 a0 t392 _ A13.out).mono ?_);rintro e w18 ⟨v393,rfl,ho0,hb⟩;refine ⟨_,rfl,?_⟩;have n0_:=aM (Kd.R_lower ho0 (below_size (zB HB.out)));have n1_:=aM (below_step (zB HB.out) hb);clear HB;have HO394:=n0_;have HB:=n1_;clear n0_ n1_;(try clear hb);(try clear hb2);(try clear hk);(try clear hi);(try clear ho0);obtain ⟨Ao19,co19,eo19⟩:=Kd.R_slice HO394.out;subst eo19))
              go_ret
              exact ⟨zF,zB HB.out⟩
end Go.Proofs.Ytkjdblbgmomieaa.PSh
end
