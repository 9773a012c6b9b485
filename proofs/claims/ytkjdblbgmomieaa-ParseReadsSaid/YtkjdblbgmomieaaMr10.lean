import Derived.Test.YtkjdblbgmomieaaMr2
import Derived.Test.YtkjdblbgmomieaaMr9
import Derived.Test.YtkjdblbgmomieaaMr3
import Derived.Test.YtkjdblbgmomieaaMr8
import Derived.Test.YtkjdblbgmomieaaMr6
import Derived.Test.YtkjdblbgmomieaaMr1
-- from YtkjdblbgmomieaaPShx3
section
namespace Go.Proofs.Ytkjdblbgmomieaa.PSh
set_option maxHeartbeats 8000000
set_option maxRecDepth 100000
open Go.RowKit Go.Proofs.YtkjdblbgmomieaaW.PrintWords Go.Proofs.YtkjdblbgmomieaaW.PrintLast Go.Proofs.YtkjdblbgmomieaaW.PrintMore Go.Proofs.Ytkjdblbgmomieaa.Zip
attribute [local go_sem] max2_int min2_int max_two min_two max_three min_three max_four min_four   -- for this text's walks alone
set_option linter.unusedVariables false
set_option linter.unusedSimpArgs false
mutual
def r05_Makes.j0:Nat→Int→Bool→Option (Int)
 | 0,_,_=>none
 | k+1,x9,x10=>if x10=true then (some 1) else (if x9=8 then (r05_Makes.j1 k x9 (x9==8)) else (if x9=10 then (r05_Makes.j1 k x9 (x9==10)) else (if x9=12 then (r05_Makes.j1 k x9 (x9==12)) else (r05_Makes.j1 k x9 (x9==17)))))
def r05_Makes.j1:Nat→Int→Bool→Option (Int)
 | 0,_,_=>none
 | k+1,x9,x21=>if x21=true then (some 2) else (if x9=15 then (some 3) else (some 0))
end
def r05_Makes.f (k:Nat) (a0_0:Int) (a0_1:Int) (a0_2:Int) (a0_3:Int) (l0_4:List Int) (l0_5:List Int) (a0_6:ByteArray) (a0_7:Int):Option (Int):=(r05_typed.f a0_0).bind fun t111=>(if t111=true then (some a0_3) else (if a0_0=1 then (r05_Makes.j0 k a0_0 (a0_0==1)) else (if a0_0=2 then (r05_Makes.j0 k a0_0 (a0_0==2)) else (if a0_0=3 then (r05_Makes.j0 k a0_0 (a0_0==3)) else (if a0_0=4 then (r05_Makes.j0 k a0_0 (a0_0==4)) else (if a0_0=5 then (r05_Makes.j0 k a0_0 (a0_0==5)) else (if a0_0=6 then (r05_Makes.j0 k a0_0 (a0_0==6)) else (if a0_0=7 then (r05_Makes.j0 k a0_0 (a0_0==7)) else (if a0_0=9 then (r05_Makes.j0 k a0_0 (a0_0==9)) else (if a0_0=11 then (r05_Makes.j0 k a0_0 (a0_0==11)) else (r05_Makes.j0 k a0_0 (a0_0==16))))))))))))
theorem r05_Makes.mono_l:∀ k,(∀ y0 y1,LeO (r05_Makes.j0 k y0 y1) (r05_Makes.j0 (k+1) y0 y1))∧(∀ y0 y1,LeO (r05_Makes.j1 k y0 y1) (r05_Makes.j1 (k+1) y0 y1))
 | 0=>⟨fun _ _ r h=>by simp [r05_Makes.j0] at h,fun _ _ r h=>by simp [r05_Makes.j1] at h⟩
 | k+1=>by
  obtain ⟨ih0,ih1⟩:=r05_Makes.mono_l k
  refine ⟨?_,?_⟩
  ·intro y0 y1
   unfold r05_Makes.j0
   repeat' first
   | (with_reducible exact ih0 _ _)
   | (with_reducible exact ih1 _ _)
   | (with_reducible exact LeO.refl _)
   | (with_reducible exact LeO.none _)
   | (with_reducible refine LeO.ite ?_ ?_)
   | (with_reducible refine LeO.bind ?_ (fun _=>?_))
   | exact ih0 _ _
   | exact ih1 _ _
   | exact LeO.none _
   | refine LeO.ite ?_ ?_
   | refine LeO.bind ?_ (fun _=>?_)
  ·intro y0 y1
   unfold r05_Makes.j1
   repeat' first
   | (with_reducible exact ih0 _ _)
   | (with_reducible exact ih1 _ _)
   | (with_reducible exact LeO.refl _)
   | (with_reducible exact LeO.none _)
   | (with_reducible refine LeO.ite ?_ ?_)
   | (with_reducible refine LeO.bind ?_ (fun _=>?_))
   | exact ih0 _ _
   | exact ih1 _ _
   | exact LeO.none _
   | refine LeO.ite ?_ ?_
   | refine LeO.bind ?_ (fun _=>?_)
theorem r05_Makes.mono:∀ a0 a1 a2 a3 a4 a5 a6 a7 k,LeO (r05_Makes.f k a0 a1 a2 a3 a4 a5 a6 a7) (r05_Makes.f (k+1) a0 a1 a2 a3 a4 a5 a6 a7):=by
 intro a0 a1 a2 a3 a4 a5 a6 a7 k
 obtain ⟨ih0,ih1⟩:=r05_Makes.mono_l k
 unfold r05_Makes.f
 repeat' first
   | (with_reducible exact ih0 _ _)
   | (with_reducible exact ih1 _ _)
   | (with_reducible exact LeO.refl _)
   | (with_reducible exact LeO.none _)
   | (with_reducible refine LeO.ite ?_ ?_)
   | (with_reducible refine LeO.bind ?_ (fun _=>?_))
   | exact ih0 _ _
   | exact ih1 _ _
   | exact LeO.none _
   | refine LeO.ite ?_ ?_
   | refine LeO.bind ?_ (fun _=>?_)
theorem r05_Makes.calls (k:Nat) (a0_0:Int) (a0_1:Int) (a0_2:Int) (a0_3:Int) (A0_4:Option Addr) (c0_4:Nat) (l0_4:List Int) (A0_5:Option Addr) (c0_5:Nat) (l0_5:List Int) (a0_6:ByteArray) (a0_7:Int) (r:Int) (w:World) (hr0_4:Kd.C (Kd.int .i64) w A0_4 l0_4.length l0_4) (hc0_4:l0_4.length≤c0_4) (hr0_5:Kd.C (Kd.int .i64) w A0_5 l0_5.length l0_5) (hc0_5:l0_5.length≤c0_5) (h:r05_Makes.f k a0_0 a0_1 a0_2 a0_3 l0_4 l0_5 a0_6 a0_7=some r):
  Calls Try.prog 25 #[.agg #[.int .i64 a0_0,.int .i64 a0_1,.int .i64 a0_2,.int .i64 a0_3,.slice A0_4 l0_4.length c0_4,.slice A0_5 l0_5.length c0_5,.string a0_6,.int .i64 a0_7]] w fun e w'=>e=.returned (.int .i64 r)∧Below w.heap.size w w':=by
 clear hr0_4 hc0_4 hr0_5 hc0_5
 have HB:=aM (Below.refl w.heap.size w)
 have H:((r05_typed.f a0_0).bind fun t111=>(if t111=true then (some a0_3) else (if a0_0=1 then (r05_Makes.j0 k a0_0 (a0_0==1)) else (if a0_0=2 then (r05_Makes.j0 k a0_0 (a0_0==2)) else (if a0_0=3 then (r05_Makes.j0 k a0_0 (a0_0==3)) else (if a0_0=4 then (r05_Makes.j0 k a0_0 (a0_0==4)) else (if a0_0=5 then (r05_Makes.j0 k a0_0 (a0_0==5)) else (if a0_0=6 then (r05_Makes.j0 k a0_0 (a0_0==6)) else (if a0_0=7 then (r05_Makes.j0 k a0_0 (a0_0==7)) else (if a0_0=9 then (r05_Makes.j0 k a0_0 (a0_0==9)) else (if a0_0=11 then (r05_Makes.j0 k a0_0 (a0_0==11)) else (r05_Makes.j0 k a0_0 (a0_0==16)))))))))))))=some r:=h
 clear h
 replace H:=Option.bind_eq_some_iff.mp H
 obtain ⟨t111,A20,H⟩:=H
 have A2:=aM A20
 clear A20
 by_cases c3:t111=true
 ·subst c3
  have H1:(some a0_3)=some r:=by rw [if_pos rfl] at H;exact H
  clear H
  have H:=H1
  clear H1
  obtain rfl:=Option.some.inj H
  go_enter Try.func25,Try.ntmps25
  go_wp2_with (first | ((with_reducible refine gate_dst (N:=1) rfl ?_);refine box_event ?hg (N:=1) ?hd (cs:=#[.int .i64 a0_0,.int .i64 a0_1,.int .i64 a0_2,.int .i64 a0_3,.slice A0_4 l0_4.length c0_4,.slice A0_5 l0_5.length c0_5,.string a0_6,.int .i64 a0_7]) (t:=39) ?hr ?_;(case hd=>rfl);(case hg=>rfl);(case hr=>first | (go_simp;done) | (go_simp;rfl));intro gb110 hg w4 hbox hb;have n0_:=aM (below_step (zB HB.out) hb);have n1_:=aM (hbox);have n2_:=aM ((by rw [hg];exact (below_size (zB HB.out)):w.heap.size≤gb110));have n3_:=aM ((by rw [hg];exact (below_size (zB HB.out)):w.heap.size≤gb110));clear HB;have HB:=n0_;have BK110:=n1_;have GE110:=n3_;clear n0_ n1_ n2_ n3_;clear hb hbox hg;have hcz5_0:w4.cell? ⟨gb110,0,none⟩=some (.int .i64 a0_0):=(blk_cell BK110.out 0).trans rfl;have hcz5_3:w4.cell? ⟨gb110,3,none⟩=some (.int .i64 a0_3):=(blk_cell BK110.out 3).trans rfl) | ((with_reducible refine gate_callee (f:=63) rfl ?_);refine goesL_ (some 5) rfl rfl Try.func63 (by kernel_rfl) rfl #[.int .i64 a0_0] rfl zA ?_;(with_reducible refine (r05_typed.calls a0_0 true _ A2.out).mono ?_);rintro e w' ⟨rfl,⟨nd,rfl⟩⟩;refine ⟨_,rfl,?_⟩))
  go_ret
  exact ⟨zF,zC HB.out GE110.out⟩
 ·replace c3:=Bool.eq_false_iff.mpr c3
  subst c3
  have H1:(if a0_0=1 then (r05_Makes.j0 k a0_0 (a0_0==1)) else (if a0_0=2 then (r05_Makes.j0 k a0_0 (a0_0==2)) else (if a0_0=3 then (r05_Makes.j0 k a0_0 (a0_0==3)) else (if a0_0=4 then (r05_Makes.j0 k a0_0 (a0_0==4)) else (if a0_0=5 then (r05_Makes.j0 k a0_0 (a0_0==5)) else (if a0_0=6 then (r05_Makes.j0 k a0_0 (a0_0==6)) else (if a0_0=7 then (r05_Makes.j0 k a0_0 (a0_0==7)) else (if a0_0=9 then (r05_Makes.j0 k a0_0 (a0_0==9)) else (if a0_0=11 then (r05_Makes.j0 k a0_0 (a0_0==11)) else (r05_Makes.j0 k a0_0 (a0_0==16)))))))))))=some r:=by rw [if_neg (show ¬ (false=true) by decide)] at H;exact H
  clear H
  have H:=H1
  clear H1
  have HC6:=aM H
  clear H
  go_enter Try.func25,Try.ntmps25
  go_upto_if 10 with (first | ((with_reducible refine gate_dst (N:=1) rfl ?_);refine box_event ?hg (N:=1) ?hd (cs:=#[.int .i64 a0_0,.int .i64 a0_1,.int .i64 a0_2,.int .i64 a0_3,.slice A0_4 l0_4.length c0_4,.slice A0_5 l0_5.length c0_5,.string a0_6,.int .i64 a0_7]) (t:=39) ?hr ?_;(case hd=>rfl);(case hg=>rfl);(case hr=>first | (go_simp;done) | (go_simp;rfl));intro gb110 hg w7 hbox hb;have n0_:=aM (below_step (zB HB.out) hb);have n1_:=aM (hbox);have n2_:=aM ((by rw [hg];exact (below_size (zB HB.out)):w.heap.size≤gb110));have n3_:=aM ((by rw [hg];exact (below_size (zB HB.out)):w.heap.size≤gb110));clear HB;have HB:=n0_;have BK110:=n1_;have GE110:=n3_;clear n0_ n1_ n2_ n3_;clear hb hbox hg;have hcz8_0:w7.cell? ⟨gb110,0,none⟩=some (.int .i64 a0_0):=(blk_cell BK110.out 0).trans rfl) | ((with_reducible refine gate_callee (f:=63) rfl ?_);refine goesL_ (some 5) rfl rfl Try.func63 (by kernel_rfl) rfl #[.int .i64 a0_0] rfl zA ?_;(with_reducible refine (r05_typed.calls a0_0 false _ A2.out).mono ?_);rintro e w' ⟨rfl,⟨nd,rfl⟩⟩;refine ⟨_,rfl,?_⟩))
  (try simp only [Act.put,qA,qB,qC])
  go_cut [10] (fun v10 wc=>∃ (kq:Nat) (x10_5:Bool),v10=.bool x10_5∧Aside0 (r05_Makes.j0 kq a0_0 x10_5=some r)∧Aside0 (kq≤k)∧Aside0 (wc.heap[gb110]?=some (.cells #[.int .i64 a0_0,.int .i64 a0_1,.int .i64 a0_2,.int .i64 a0_3,(.slice A0_4 l0_4.length c0_4),(.slice A0_5 l0_5.length c0_5),.string a0_6,.int .i64 a0_7] 39 (0,0)))∧Aside0 (Below w.heap.size w wc))
  case first=>
   have H:=HC6.out
   clear HC6
   by_cases c9:a0_0=1
   ·rw [if_pos c9] at H
    have c9b0:(a0_0==1)=true:=beq_iff_eq.mpr c9
    clear c9
    (first | rw [c9b0] | (simp only [i64_w,i32_w];rw [c9b0]) | skip)
    have H':=aM H
    clear H
    go_wp2
    go_meet
    case rel=>exact ⟨_,((a0_0==1)),(by first | rfl | (simp;done) | (simp [*];done)),H',⟨by first | omega | exact Nat.le_refl _⟩,⟨zK BK110.out⟩,⟨zC HB.out GE110.out⟩⟩
   ·rw [if_neg c9] at H
    have c9b0:(a0_0==1)=false:=beq_eq_false_iff_ne.mpr c9
    (first | rw [c9b0] | (simp only [i64_w,i32_w];rw [c9b0]) | skip)
    by_cases c10:a0_0=2
    ·rw [if_pos c10] at H
     have c10b0:(a0_0==2)=true:=beq_iff_eq.mpr c10
     clear c10
     have H':=aM H
     clear H
     go_wp2
     go_meet
     case rel=>exact ⟨_,((a0_0==2)),(by first | rfl | (simp;done) | (simp [*];done)),H',⟨by first | omega | exact Nat.le_refl _⟩,⟨zK BK110.out⟩,⟨zC HB.out GE110.out⟩⟩
    ·rw [if_neg c10] at H
     have c10b0:(a0_0==2)=false:=beq_eq_false_iff_ne.mpr c10
     by_cases c11:a0_0=3
     ·rw [if_pos c11] at H
      have c11b0:(a0_0==3)=true:=beq_iff_eq.mpr c11
      clear c11
      have H':=aM H
      clear H
      go_wp2
      go_meet
      case rel=>exact ⟨_,((a0_0==3)),(by first | rfl | (simp;done) | (simp [*];done)),H',⟨by first | omega | exact Nat.le_refl _⟩,⟨zK BK110.out⟩,⟨zC HB.out GE110.out⟩⟩
     ·rw [if_neg c11] at H
      have c11b0:(a0_0==3)=false:=beq_eq_false_iff_ne.mpr c11
      by_cases c12:a0_0=4
      ·rw [if_pos c12] at H
       have c12b0:(a0_0==4)=true:=beq_iff_eq.mpr c12
       clear c12
       have H':=aM H
       clear H
       go_wp2
       go_meet
       case rel=>exact ⟨_,((a0_0==4)),(by first | rfl | (simp;done) | (simp [*];done)),H',⟨by first | omega | exact Nat.le_refl _⟩,⟨zK BK110.out⟩,⟨zC HB.out GE110.out⟩⟩
      ·rw [if_neg c12] at H
       have c12b0:(a0_0==4)=false:=beq_eq_false_iff_ne.mpr c12
       by_cases c13:a0_0=5
       ·rw [if_pos c13] at H
        have c13b0:(a0_0==5)=true:=beq_iff_eq.mpr c13
        clear c13
        have H':=aM H
        clear H
        go_wp2
        go_meet
        case rel=>exact ⟨_,((a0_0==5)),(by first | rfl | (simp;done) | (simp [*];done)),H',⟨by first | omega | exact Nat.le_refl _⟩,⟨zK BK110.out⟩,⟨zC HB.out GE110.out⟩⟩
       ·rw [if_neg c13] at H
        have c13b0:(a0_0==5)=false:=beq_eq_false_iff_ne.mpr c13
        by_cases c14:a0_0=6
        ·rw [if_pos c14] at H
         have c14b0:(a0_0==6)=true:=beq_iff_eq.mpr c14
         clear c14
         have H':=aM H
         clear H
         go_wp2
         go_meet
         case rel=>exact ⟨_,((a0_0==6)),(by first | rfl | (simp;done) | (simp [*];done)),H',⟨by first | omega | exact Nat.le_refl _⟩,⟨zK BK110.out⟩,⟨zC HB.out GE110.out⟩⟩
        ·rw [if_neg c14] at H
         have c14b0:(a0_0==6)=false:=beq_eq_false_iff_ne.mpr c14
         by_cases c15:a0_0=7
         ·rw [if_pos c15] at H
          have c15b0:(a0_0==7)=true:=beq_iff_eq.mpr c15
          clear c15
          have H':=aM H
          clear H
          go_wp2
          go_meet
          case rel=>exact ⟨_,((a0_0==7)),(by first | rfl | (simp;done) | (simp [*];done)),H',⟨by first | omega | exact Nat.le_refl _⟩,⟨zK BK110.out⟩,⟨zC HB.out GE110.out⟩⟩
         ·rw [if_neg c15] at H
          have c15b0:(a0_0==7)=false:=beq_eq_false_iff_ne.mpr c15
          by_cases c16:a0_0=9
          ·rw [if_pos c16] at H
           have c16b0:(a0_0==9)=true:=beq_iff_eq.mpr c16
           clear c16
           have H':=aM H
           clear H
           go_wp2
           go_meet
           case rel=>exact ⟨_,((a0_0==9)),(by first | rfl | (simp;done) | (simp [*];done)),H',⟨by first | omega | exact Nat.le_refl _⟩,⟨zK BK110.out⟩,⟨zC HB.out GE110.out⟩⟩
          ·rw [if_neg c16] at H
           have c16b0:(a0_0==9)=false:=beq_eq_false_iff_ne.mpr c16
           by_cases c17:a0_0=11
           ·rw [if_pos c17] at H
            have c17b0:(a0_0==11)=true:=beq_iff_eq.mpr c17
            clear c17
            have H':=aM H
            clear H
            go_wp2
            go_meet
            case rel=>exact ⟨_,((a0_0==11)),(by first | rfl | (simp;done) | (simp [*];done)),H',⟨by first | omega | exact Nat.le_refl _⟩,⟨zK BK110.out⟩,⟨zC HB.out GE110.out⟩⟩
           ·rw [if_neg c17] at H
            have c17b0:(a0_0==11)=false:=beq_eq_false_iff_ne.mpr c17
            have H':=aM H
            clear H
            go_wp2
            go_meet
            case rel=>exact ⟨_,((a0_0==16)),(by first | rfl | (simp;done) | (simp [*];done)),H',⟨by first | omega | exact Nat.le_refl _⟩,⟨zK BK110.out⟩,⟨zC HB.out GE110.out⟩⟩
  case rest=>
   clear HC6 hcz8_0
   obtain ⟨kq,x10_5,rfl,HA,HJ5,BK110,HB⟩:=hcut
   cases kq with
   | zero=>exact absurd HA.out (by simp [r05_Makes.j0])
   | succ kj5=>
    have H:=HA.out
    clear HA
    simp only [r05_Makes.j0] at H
    by_cases c18:x10_5=true
    ·subst c18
     have H1:(some 1)=some r:=by rw [if_pos rfl] at H;exact H
     clear H
     have H:=H1
     clear H1
     obtain rfl:=Option.some.inj H
     go_wp2
     go_ret
     exact ⟨zF,zC HB.out GE110.out⟩
    ·replace c18:=Bool.eq_false_iff.mpr c18
     subst c18
     have H1:(if a0_0=8 then (r05_Makes.j1 kj5 a0_0 (a0_0==8)) else (if a0_0=10 then (r05_Makes.j1 kj5 a0_0 (a0_0==10)) else (if a0_0=12 then (r05_Makes.j1 kj5 a0_0 (a0_0==12)) else (r05_Makes.j1 kj5 a0_0 (a0_0==17)))))=some r:=by rw [if_neg (show ¬ (false=true) by decide)] at H;exact H
     clear H
     have H:=H1
     clear H1
     have HC19:=aM H
     clear H
     go_upto_if 21 with (fail)
     go_cut [21] (fun v21 wc=>∃ (kq:Nat) (x21_18:Bool),v21=.bool x21_18∧Aside0 (r05_Makes.j1 kq a0_0 x21_18=some r)∧Aside0 (kq≤kj5)∧Aside0 (wc.heap[gb110]?=some (.cells #[.int .i64 a0_0,.int .i64 a0_1,.int .i64 a0_2,.int .i64 a0_3,(.slice A0_4 l0_4.length c0_4),(.slice A0_5 l0_5.length c0_5),.string a0_6,.int .i64 a0_7] 39 (0,0)))∧Aside0 (Below w.heap.size w wc))
     case first=>
      have H:=HC19.out
      clear HC19
      by_cases c20:a0_0=8
      ·rw [if_pos c20] at H
       have c20b0:(a0_0==8)=true:=beq_iff_eq.mpr c20
       clear c20
       (first | rw [c20b0] | (simp only [i64_w,i32_w];rw [c20b0]) | skip)
       have H':=aM H
       clear H
       go_wp2
       go_meet
       case rel=>exact ⟨_,((a0_0==8)),(by first | rfl | (simp;done) | (simp [*];done)),H',⟨by have:=HJ5.out;first | omega | exact Nat.le_refl _⟩,⟨zK BK110.out⟩,⟨zC HB.out GE110.out⟩⟩
      ·rw [if_neg c20] at H
       have c20b0:(a0_0==8)=false:=beq_eq_false_iff_ne.mpr c20
       (first | rw [c20b0] | (simp only [i64_w,i32_w];rw [c20b0]) | skip)
       by_cases c21:a0_0=10
       ·rw [if_pos c21] at H
        have c21b0:(a0_0==10)=true:=beq_iff_eq.mpr c21
        clear c21
        have H':=aM H
        clear H
        go_wp2
        go_meet
        case rel=>exact ⟨_,((a0_0==10)),(by first | rfl | (simp;done) | (simp [*];done)),H',⟨by have:=HJ5.out;first | omega | exact Nat.le_refl _⟩,⟨zK BK110.out⟩,⟨zC HB.out GE110.out⟩⟩
       ·rw [if_neg c21] at H
        have c21b0:(a0_0==10)=false:=beq_eq_false_iff_ne.mpr c21
        by_cases c22:a0_0=12
        ·rw [if_pos c22] at H
         have c22b0:(a0_0==12)=true:=beq_iff_eq.mpr c22
         clear c22
         have H':=aM H
         clear H
         go_wp2
         go_meet
         case rel=>exact ⟨_,((a0_0==12)),(by first | rfl | (simp;done) | (simp [*];done)),H',⟨by have:=HJ5.out;first | omega | exact Nat.le_refl _⟩,⟨zK BK110.out⟩,⟨zC HB.out GE110.out⟩⟩
        ·rw [if_neg c22] at H
         have c22b0:(a0_0==12)=false:=beq_eq_false_iff_ne.mpr c22
         have H':=aM H
         clear H
         go_wp2
         go_meet
         case rel=>exact ⟨_,((a0_0==17)),(by first | rfl | (simp;done) | (simp [*];done)),H',⟨by have:=HJ5.out;first | omega | exact Nat.le_refl _⟩,⟨zK BK110.out⟩,⟨zC HB.out GE110.out⟩⟩
     case rest=>
      clear HC19
      obtain ⟨kq,x21_18,rfl,HA,HJ18,BK110,HB⟩:=hcut
      cases kq with
      | zero=>exact absurd HA.out (by simp [r05_Makes.j1])
      | succ kj18=>
       have H:=HA.out
       clear HA
       simp only [r05_Makes.j1] at H
       by_cases c23:x21_18=true
       ·subst c23
        have H1:(some 2)=some r:=by rw [if_pos rfl] at H;exact H
        clear H
        have H:=H1
        clear H1
        obtain rfl:=Option.some.inj H
        go_wp2
        go_ret
        exact ⟨zF,zC HB.out GE110.out⟩
       ·replace c23:=Bool.eq_false_iff.mpr c23
        subst c23
        have H1:(if a0_0=15 then (some 3) else (some 0))=some r:=by rw [if_neg (show ¬ (false=true) by decide)] at H;exact H
        clear H
        have H:=H1
        clear H1
        by_cases c24:a0_0=15
        ·rw [if_pos c24] at H
         have c24b0:(a0_0==15)=true:=beq_iff_eq.mpr c24
         clear c24
         obtain rfl:=Option.some.inj H
         go_wp2
         go_ret
         exact ⟨zF,zC HB.out GE110.out⟩
        ·rw [if_neg c24] at H
         have c24b0:(a0_0==15)=false:=beq_eq_false_iff_ne.mpr c24
         obtain rfl:=Option.some.inj H
         go_wp2
         go_ret
         exact ⟨zF,zC HB.out GE110.out⟩
def r05_May.f (a0:Int) (a1:Int):Option (Bool):=if a0=20 then (if a1≥1 then (some (decide (a1≤3))) else (some false)) else (if a0=21 then (if a1≥0 then (some (decide (a1≤2))) else (some false)) else (if a0=24 then (if a1=2 then (some true) else (some (a1==3))) else (some (a1==0))))
theorem r05_May.calls (a0:Int) (a1:Int) (r:Bool) (w:World) (h:r05_May.f a0 a1=some r):
  Calls Try.prog 50 #[.int .i64 a0,.int .i64 a1] w fun e w'=>e=.returned (.bool r)∧Drawn0 w w':=by
 have H:(if a0=20 then (if a1≥1 then (some (decide (a1≤3))) else (some false)) else (if a0=21 then (if a1≥0 then (some (decide (a1≤2))) else (some false)) else (if a0=24 then (if a1=2 then (some true) else (some (a1==3))) else (some (a1==0)))))=some r:=h
 clear h
 by_cases c3:a0=20
 ·rw [if_pos c3] at H
  have c3b0:(a0==20)=true:=beq_iff_eq.mpr c3
  clear c3
  by_cases c4:a1≥1
  ·rw [if_pos c4] at H
   have c4b0:decide (1≤a1)=true:=decide_eq_true c4
   clear c4
   obtain rfl:=Option.some.inj H
   go_enter Try.func50,Try.ntmps50
   go_wp2
   go_ret
   exact ⟨by first | rfl | (simp;done) | (simp [*];done),zQ⟩
  ·rw [if_neg c4] at H
   have c4b0:decide (1≤a1)=false:=decide_eq_false c4
   clear c4
   obtain rfl:=Option.some.inj H
   go_enter Try.func50,Try.ntmps50
   go_wp2
   go_ret
   exact ⟨by first | rfl | (simp;done) | (simp [*];done),zQ⟩
 ·rw [if_neg c3] at H
  have c3b0:(a0==20)=false:=beq_eq_false_iff_ne.mpr c3
  by_cases c5:a0=21
  ·rw [if_pos c5] at H
   have c5b0:(a0==21)=true:=beq_iff_eq.mpr c5
   clear c5
   by_cases c6:a1≥0
   ·rw [if_pos c6] at H
    have c6b0:decide (0≤a1)=true:=decide_eq_true c6
    clear c6
    obtain rfl:=Option.some.inj H
    go_enter Try.func50,Try.ntmps50
    go_wp2
    go_ret
    exact ⟨by first | rfl | (simp;done) | (simp [*];done),zQ⟩
   ·rw [if_neg c6] at H
    have c6b0:decide (0≤a1)=false:=decide_eq_false c6
    clear c6
    obtain rfl:=Option.some.inj H
    go_enter Try.func50,Try.ntmps50
    go_wp2
    go_ret
    exact ⟨by first | rfl | (simp;done) | (simp [*];done),zQ⟩
  ·rw [if_neg c5] at H
   have c5b0:(a0==21)=false:=beq_eq_false_iff_ne.mpr c5
   by_cases c7:a0=24
   ·rw [if_pos c7] at H
    have c7b0:(a0==24)=true:=beq_iff_eq.mpr c7
    clear c7
    by_cases c8:a1=2
    ·rw [if_pos c8] at H
     have c8b0:(a1==2)=true:=beq_iff_eq.mpr c8
     clear c8
     obtain rfl:=Option.some.inj H
     go_enter Try.func50,Try.ntmps50
     go_wp2
     go_ret
     exact ⟨by first | rfl | (simp;done) | (simp [*];done),zQ⟩
    ·rw [if_neg c8] at H
     have c8b0:(a1==2)=false:=beq_eq_false_iff_ne.mpr c8
     obtain rfl:=Option.some.inj H
     go_enter Try.func50,Try.ntmps50
     go_wp2
     go_ret
     exact ⟨by first | rfl | (simp;done) | (simp [*];done),zQ⟩
   ·rw [if_neg c7] at H
    have c7b0:(a0==24)=false:=beq_eq_false_iff_ne.mpr c7
    obtain rfl:=Option.some.inj H
    go_enter Try.func50,Try.ntmps50
    go_wp2
    go_ret
    exact ⟨by first | rfl | (simp;done) | (simp [*];done),zQ⟩
end Go.Proofs.Ytkjdblbgmomieaa.PSh
end
-- from YtkjdblbgmomieaaPShx4
section
namespace Go.Proofs.Ytkjdblbgmomieaa.PSh
set_option maxHeartbeats 8000000
set_option maxRecDepth 100000
open Go.RowKit Go.Proofs.YtkjdblbgmomieaaW.PrintWords Go.Proofs.YtkjdblbgmomieaaW.PrintLast Go.Proofs.YtkjdblbgmomieaaW.PrintMore Go.Proofs.Ytkjdblbgmomieaa.Zip
attribute [local go_sem] max2_int min2_int max_two min_two max_three min_three max_four min_four   -- for this text's walks alone
set_option linter.unusedVariables false
set_option linter.unusedSimpArgs false
mutual
def r05_Takes.j0:Nat→Int→Bool→Option (List Int)
 | 0,_,_=>none
 | k+1,x0,x8=>if x8=true then (some (([1,1]:List Int))) else (if x0=9 then (r05_Takes.j1 k x0 (x0==9)) else (r05_Takes.j1 k x0 (x0==14)))
def r05_Takes.j1:Nat→Int→Bool→Option (List Int)
 | 0,_,_=>none
 | k+1,x10,x11=>if x11=true then (some (([2,2]:List Int))) else (if x10=11 then (r05_Takes.j2 k x10 (x10==11)) else (if x10=12 then (r05_Takes.j2 k x10 (x10==12)) else (if x10=15 then (r05_Takes.j2 k x10 (x10==15)) else (r05_Takes.j2 k x10 (x10==25)))))
def r05_Takes.j2:Nat→Int→Bool→Option (List Int)
 | 0,_,_=>none
 | k+1,x10,x15=>if x15=true then (some (([2]:List Int))) else (if x10=13 then (some (([2,1]:List Int))) else (if x10=16 then (r05_Takes.j3 k x10 (x10==16)) else (r05_Takes.j3 k x10 (x10==17))))
def r05_Takes.j3:Nat→Int→Bool→Option (List Int)
 | 0,_,_=>none
 | k+1,x10,x24=>if x24=true then (some (([3]:List Int))) else (if x10=18 then (some (([3,1]:List Int))) else (if x10=19 then (some (([3,2]:List Int))) else (if x10=22 then (some (([1]:List Int))) else (if x10=27 then (some (([1]:List Int))) else (some ([]:List Int))))))
end
def r05_Takes.f (k:Nat) (a0:Int):Option (List Int):=if a0≥2 then (r05_Takes.j0 k a0 (decide (a0≤7))) else (r05_Takes.j0 k a0 false)
theorem r05_Takes.mono_l:∀ k,(∀ y0 y1,LeO (r05_Takes.j0 k y0 y1) (r05_Takes.j0 (k+1) y0 y1))∧(∀ y0 y1,LeO (r05_Takes.j1 k y0 y1) (r05_Takes.j1 (k+1) y0 y1))∧(∀ y0 y1,LeO (r05_Takes.j2 k y0 y1) (r05_Takes.j2 (k+1) y0 y1))∧(∀ y0 y1,LeO (r05_Takes.j3 k y0 y1) (r05_Takes.j3 (k+1) y0 y1))
 | 0=>⟨fun _ _ r h=>by simp [r05_Takes.j0] at h,fun _ _ r h=>by simp [r05_Takes.j1] at h,fun _ _ r h=>by simp [r05_Takes.j2] at h,fun _ _ r h=>by simp [r05_Takes.j3] at h⟩
 | k+1=>by
  obtain ⟨ih0,ih1,ih2,ih3⟩:=r05_Takes.mono_l k
  refine ⟨?_,?_,?_,?_⟩
  ·intro y0 y1
   unfold r05_Takes.j0
   repeat' first
   | (with_reducible exact ih0 _ _)
   | (with_reducible exact ih1 _ _)
   | (with_reducible exact ih2 _ _)
   | (with_reducible exact ih3 _ _)
   | (with_reducible exact LeO.refl _)
   | (with_reducible exact LeO.none _)
   | (with_reducible refine LeO.ite ?_ ?_)
   | (with_reducible refine LeO.bind ?_ (fun _=>?_))
   | exact ih0 _ _
   | exact ih1 _ _
   | exact ih2 _ _
   | exact ih3 _ _
   | exact LeO.none _
   | refine LeO.ite ?_ ?_
   | refine LeO.bind ?_ (fun _=>?_)
  ·intro y0 y1
   unfold r05_Takes.j1
   repeat' first
   | (with_reducible exact ih0 _ _)
   | (with_reducible exact ih1 _ _)
   | (with_reducible exact ih2 _ _)
   | (with_reducible exact ih3 _ _)
   | (with_reducible exact LeO.refl _)
   | (with_reducible exact LeO.none _)
   | (with_reducible refine LeO.ite ?_ ?_)
   | (with_reducible refine LeO.bind ?_ (fun _=>?_))
   | exact ih0 _ _
   | exact ih1 _ _
   | exact ih2 _ _
   | exact ih3 _ _
   | exact LeO.none _
   | refine LeO.ite ?_ ?_
   | refine LeO.bind ?_ (fun _=>?_)
  ·intro y0 y1
   unfold r05_Takes.j2
   repeat' first
   | (with_reducible exact ih0 _ _)
   | (with_reducible exact ih1 _ _)
   | (with_reducible exact ih2 _ _)
   | (with_reducible exact ih3 _ _)
   | (with_reducible exact LeO.refl _)
   | (with_reducible exact LeO.none _)
   | (with_reducible refine LeO.ite ?_ ?_)
   | (with_reducible refine LeO.bind ?_ (fun _=>?_))
   | exact ih0 _ _
   | exact ih1 _ _
   | exact ih2 _ _
   | exact ih3 _ _
   | exact LeO.none _
   | refine LeO.ite ?_ ?_
   | refine LeO.bind ?_ (fun _=>?_)
  ·intro y0 y1
   unfold r05_Takes.j3
   repeat' first
   | (with_reducible exact ih0 _ _)
   | (with_reducible exact ih1 _ _)
   | (with_reducible exact ih2 _ _)
   | (with_reducible exact ih3 _ _)
   | (with_reducible exact LeO.refl _)
   | (with_reducible exact LeO.none _)
   | (with_reducible refine LeO.ite ?_ ?_)
   | (with_reducible refine LeO.bind ?_ (fun _=>?_))
   | exact ih0 _ _
   | exact ih1 _ _
   | exact ih2 _ _
   | exact ih3 _ _
   | exact LeO.none _
   | refine LeO.ite ?_ ?_
   | refine LeO.bind ?_ (fun _=>?_)
theorem r05_Takes.mono:∀ a0 k,LeO (r05_Takes.f k a0) (r05_Takes.f (k+1) a0):=by
 intro a0 k
 obtain ⟨ih0,ih1,ih2,ih3⟩:=r05_Takes.mono_l k
 unfold r05_Takes.f
 repeat' first
   | (with_reducible exact ih0 _ _)
   | (with_reducible exact ih1 _ _)
   | (with_reducible exact ih2 _ _)
   | (with_reducible exact ih3 _ _)
   | (with_reducible exact LeO.refl _)
   | (with_reducible exact LeO.none _)
   | (with_reducible refine LeO.ite ?_ ?_)
   | (with_reducible refine LeO.bind ?_ (fun _=>?_))
   | exact ih0 _ _
   | exact ih1 _ _
   | exact ih2 _ _
   | exact ih3 _ _
   | exact LeO.none _
   | refine LeO.ite ?_ ?_
   | refine LeO.bind ?_ (fun _=>?_)
theorem r05_Takes.calls (k:Nat) (a0:Int) (r:List Int) (w:World) (h:r05_Takes.f k a0=some r):
  Calls Try.prog 72 #[.int .i64 a0] w fun e w'=>∃ v0_:Value,e=.returned (v0_)∧Kd.R (Kd.int .i64) 3 w' w.heap.size (fun _=>True) v0_ r∧Below w.heap.size w w':=by
 have HB:=aM (Below.refl w.heap.size w)
 have H:(if a0≥2 then (r05_Takes.j0 k a0 (decide (a0≤7))) else (r05_Takes.j0 k a0 false))=some r:=h
 clear h
 have HC2:=aM H
 clear H
 go_enter Try.func72,Try.ntmps72
 go_upto_region 1 with (fail)
 go_cut [8] (fun v8 wc=>∃ (kq:Nat) (x8_1:Bool),v8=.bool x8_1∧Aside0 (r05_Takes.j0 kq a0 x8_1=some r)∧Aside0 (kq≤k)∧Aside0 (Below w.heap.size w wc))
 case first=>
  have H:=HC2.out
  clear HC2
  by_cases c3:a0≥2
  ·rw [if_pos c3] at H
   have c3b0:decide (2≤a0)=true:=decide_eq_true c3
   clear c3
   (first | rw [c3b0] | (simp only [i64_w,i32_w];rw [c3b0]) | skip)
   have H':=aM H
   clear H
   go_wp2
   go_meet
   case rel=>exact ⟨_,(decide (a0≤7)),(by first | rfl | (simp;done) | (simp [*];done)),H',⟨by first | omega | exact Nat.le_refl _⟩,⟨zB HB.out⟩⟩
  ·rw [if_neg c3] at H
   have c3b0:decide (2≤a0)=false:=decide_eq_false c3
   clear c3
   (first | rw [c3b0] | (simp only [i64_w,i32_w];rw [c3b0]) | skip)
   have H':=aM H
   clear H
   go_wp2
   go_meet
   case rel=>exact ⟨_,(false),(by first | rfl | (simp;done) | (simp [*];done)),H',⟨by first | omega | exact Nat.le_refl _⟩,⟨zB HB.out⟩⟩
 case rest=>
  clear HC2
  obtain ⟨kq,x8_1,rfl,HA,HJ1,HB⟩:=hcut
  cases kq with
  | zero=>exact absurd HA.out (by simp [r05_Takes.j0])
  | succ kj1=>
   have H:=HA.out
   clear HA
   simp only [r05_Takes.j0] at H
   by_cases c4:x8_1=true
   ·subst c4
    have H1:(some (([1,1]:List Int)))=some r:=by rw [if_pos rfl] at H;exact H
    clear H
    have H:=H1
    clear H1
    obtain ⟨y112,hy112⟩:∃ y_:List Int,y_=(([1,1]:List Int)):=⟨_,rfl⟩
    replace H:(some y112)=some r:=by first | (rw [hy112];with_reducible exact H) | (have H2_:=(Option.bind_some _ _).symm.trans H;rw [hy112];with_reducible exact H2_) | (have H2_:=(Option.bind_some _ _).symm.trans H;with_reducible exact H2_) | with_reducible exact H | (rw [hy112];exact H) | exact H
    have Ny112:=aM hy112
    clear hy112
    obtain rfl:=Option.some.inj H
    go_wp2_with (first | ((with_reducible refine gate_dst (N:=9) rfl ?_);refine Kd.R_lit (Kd.int .i64) _ 3 ?hg (N:=9) ?hd (xs:=([1,1]:List Int)) (inner:=[.int .i64 1,.int .i64 1]) (ok:=fun _=>True) (okp:=fun _=>True) ?hr ?hp (fun _ hk=>hk) trivial (Below.refl _ _) (Nat.le_refl _) (by simp) ?_;(case hd=>rfl);(case hg=>rfl);(case hr=>first | (go_simp;done) | (go_simp;rfl));(case hp=>exact (Reps.one (show Kd.M (Kd.int .i64) _ _ _ 1 [.int .i64 1] from rfl) (Reps.one (show Kd.M (Kd.int .i64) _ _ _ 1 [.int .i64 1] from rfl) (Reps.none _ _))));intro v113 w5 ho6 hb hg_ hnew_;clear hg_ hnew_;(first | rw [← Ny112.out] at ho6 | (simp only [Int.reduceToNat] at ho6;rw [← Ny112.out] at ho6));have n0_:=aM (Kd.R_lower ho6 (below_size (zB HB.out)));have n1_:=aM (below_step (zB HB.out) hb);clear HB;have HO114:=n0_;have HB:=n1_;clear n0_ n1_;clear hb ho6))
    go_ret
    exact ⟨_,zF,zR HO114.out,zB HB.out⟩
   ·replace c4:=Bool.eq_false_iff.mpr c4
    subst c4
    have H1:(if a0=9 then (r05_Takes.j1 kj1 a0 (a0==9)) else (r05_Takes.j1 kj1 a0 (a0==14)))=some r:=by rw [if_neg (show ¬ (false=true) by decide)] at H;exact H
    clear H
    have H:=H1
    clear H1
    have HC7:=aM H
    clear H
    go_upto_if 11 with (fail)
    go_cut [11] (fun v11 wc=>∃ (kq:Nat) (x11_6:Bool),v11=.bool x11_6∧Aside0 (r05_Takes.j1 kq a0 x11_6=some r)∧Aside0 (kq≤kj1)∧Aside0 (Below w.heap.size w wc))
    case first=>
     have H:=HC7.out
     clear HC7
     by_cases c8:a0=9
     ·rw [if_pos c8] at H
      have c8b0:(a0==9)=true:=beq_iff_eq.mpr c8
      clear c8
      (first | rw [c8b0] | (simp only [i64_w,i32_w];rw [c8b0]) | skip)
      have H':=aM H
      clear H
      go_wp2
      go_meet
      case rel=>exact ⟨_,((a0==9)),(by first | rfl | (simp;done) | (simp [*];done)),H',⟨by have:=HJ1.out;first | omega | exact Nat.le_refl _⟩,⟨zB HB.out⟩⟩
     ·rw [if_neg c8] at H
      have c8b0:(a0==9)=false:=beq_eq_false_iff_ne.mpr c8
      (first | rw [c8b0] | (simp only [i64_w,i32_w];rw [c8b0]) | skip)
      have H':=aM H
      clear H
      go_wp2
      go_meet
      case rel=>exact ⟨_,((a0==14)),(by first | rfl | (simp;done) | (simp [*];done)),H',⟨by have:=HJ1.out;first | omega | exact Nat.le_refl _⟩,⟨zB HB.out⟩⟩
    case rest=>
     clear HC7
     obtain ⟨kq,x11_6,rfl,HA,HJ6,HB⟩:=hcut
     cases kq with
     | zero=>exact absurd HA.out (by simp [r05_Takes.j1])
     | succ kj6=>
      have H:=HA.out
      clear HA
      simp only [r05_Takes.j1] at H
      by_cases c9:x11_6=true
      ·subst c9
       have H1:(some (([2,2]:List Int)))=some r:=by rw [if_pos rfl] at H;exact H
       clear H
       have H:=H1
       clear H1
       obtain ⟨y115,hy115⟩:∃ y_:List Int,y_=(([2,2]:List Int)):=⟨_,rfl⟩
       replace H:(some y115)=some r:=by first | (rw [hy115];with_reducible exact H) | (have H2_:=(Option.bind_some _ _).symm.trans H;rw [hy115];with_reducible exact H2_) | (have H2_:=(Option.bind_some _ _).symm.trans H;with_reducible exact H2_) | with_reducible exact H | (rw [hy115];exact H) | exact H
       have Ny115:=aM hy115
       clear hy115
       obtain rfl:=Option.some.inj H
       go_wp2_with (first | ((with_reducible refine gate_dst (N:=14) rfl ?_);refine Kd.R_lit (Kd.int .i64) _ 3 ?hg (N:=14) ?hd (xs:=([2,2]:List Int)) (inner:=[.int .i64 2,.int .i64 2]) (ok:=fun _=>True) (okp:=fun _=>True) ?hr ?hp (fun _ hk=>hk) trivial (Below.refl _ _) (Nat.le_refl _) (by simp) ?_;(case hd=>rfl);(case hg=>rfl);(case hr=>first | (go_simp;done) | (go_simp;rfl));(case hp=>exact (Reps.one (show Kd.M (Kd.int .i64) _ _ _ 2 [.int .i64 2] from rfl) (Reps.one (show Kd.M (Kd.int .i64) _ _ _ 2 [.int .i64 2] from rfl) (Reps.none _ _))));intro v116 w10 ho11 hb hg_ hnew_;clear hg_ hnew_;(first | rw [← Ny115.out] at ho11 | (simp only [Int.reduceToNat] at ho11;rw [← Ny115.out] at ho11));have n0_:=aM (Kd.R_lower ho11 (below_size (zB HB.out)));have n1_:=aM (below_step (zB HB.out) hb);clear HB;have HO117:=n0_;have HB:=n1_;clear n0_ n1_;clear hb ho11))
       go_ret
       exact ⟨_,zF,zR HO117.out,zB HB.out⟩
      ·replace c9:=Bool.eq_false_iff.mpr c9
       subst c9
       have H1:(if a0=11 then (r05_Takes.j2 kj6 a0 (a0==11)) else (if a0=12 then (r05_Takes.j2 kj6 a0 (a0==12)) else (if a0=15 then (r05_Takes.j2 kj6 a0 (a0==15)) else (r05_Takes.j2 kj6 a0 (a0==25)))))=some r:=by rw [if_neg (show ¬ (false=true) by decide)] at H;exact H
       clear H
       have H:=H1
       clear H1
       have HC12:=aM H
       clear H
       go_upto_if 15 with (fail)
       go_cut [15] (fun v15 wc=>∃ (kq:Nat) (x15_11:Bool),v15=.bool x15_11∧Aside0 (r05_Takes.j2 kq a0 x15_11=some r)∧Aside0 (kq≤kj6)∧Aside0 (Below w.heap.size w wc))
       case first=>
        have H:=HC12.out
        clear HC12
        by_cases c13:a0=11
        ·rw [if_pos c13] at H
         have c13b0:(a0==11)=true:=beq_iff_eq.mpr c13
         clear c13
         (first | rw [c13b0] | (simp only [i64_w,i32_w];rw [c13b0]) | skip)
         have H':=aM H
         clear H
         go_wp2
         go_meet
         case rel=>exact ⟨_,((a0==11)),(by first | rfl | (simp;done) | (simp [*];done)),H',⟨by have:=HJ1.out;have:=HJ6.out;first | omega | exact Nat.le_refl _⟩,⟨zB HB.out⟩⟩
        ·rw [if_neg c13] at H
         have c13b0:(a0==11)=false:=beq_eq_false_iff_ne.mpr c13
         (first | rw [c13b0] | (simp only [i64_w,i32_w];rw [c13b0]) | skip)
         by_cases c14:a0=12
         ·rw [if_pos c14] at H
          have c14b0:(a0==12)=true:=beq_iff_eq.mpr c14
          clear c14
          have H':=aM H
          clear H
          go_wp2
          go_meet
          case rel=>exact ⟨_,((a0==12)),(by first | rfl | (simp;done) | (simp [*];done)),H',⟨by have:=HJ1.out;have:=HJ6.out;first | omega | exact Nat.le_refl _⟩,⟨zB HB.out⟩⟩
         ·rw [if_neg c14] at H
          have c14b0:(a0==12)=false:=beq_eq_false_iff_ne.mpr c14
          by_cases c15:a0=15
          ·rw [if_pos c15] at H
           have c15b0:(a0==15)=true:=beq_iff_eq.mpr c15
           clear c15
           have H':=aM H
           clear H
           go_wp2
           go_meet
           case rel=>exact ⟨_,((a0==15)),(by first | rfl | (simp;done) | (simp [*];done)),H',⟨by have:=HJ1.out;have:=HJ6.out;first | omega | exact Nat.le_refl _⟩,⟨zB HB.out⟩⟩
          ·rw [if_neg c15] at H
           have c15b0:(a0==15)=false:=beq_eq_false_iff_ne.mpr c15
           have H':=aM H
           clear H
           go_wp2
           go_meet
           case rel=>exact ⟨_,((a0==25)),(by first | rfl | (simp;done) | (simp [*];done)),H',⟨by have:=HJ1.out;have:=HJ6.out;first | omega | exact Nat.le_refl _⟩,⟨zB HB.out⟩⟩
       case rest=>
        clear HC12
        obtain ⟨kq,x15_11,rfl,HA,HJ11,HB⟩:=hcut
        cases kq with
        | zero=>exact absurd HA.out (by simp [r05_Takes.j2])
        | succ kj11=>
         have H:=HA.out
         clear HA
         simp only [r05_Takes.j2] at H
         by_cases c16:x15_11=true
         ·subst c16
          have H1:(some (([2]:List Int)))=some r:=by rw [if_pos rfl] at H;exact H
          clear H
          have H:=H1
          clear H1
          obtain ⟨y118,hy118⟩:∃ y_:List Int,y_=(([2]:List Int)):=⟨_,rfl⟩
          replace H:(some y118)=some r:=by first | (rw [hy118];with_reducible exact H) | (have H2_:=(Option.bind_some _ _).symm.trans H;rw [hy118];with_reducible exact H2_) | (have H2_:=(Option.bind_some _ _).symm.trans H;with_reducible exact H2_) | with_reducible exact H | (rw [hy118];exact H) | exact H
          have Ny118:=aM hy118
          clear hy118
          obtain rfl:=Option.some.inj H
          go_wp2_with (first | ((with_reducible refine gate_dst (N:=20) rfl ?_);refine Kd.R_lit (Kd.int .i64) _ 3 ?hg (N:=20) ?hd (xs:=([2]:List Int)) (inner:=[.int .i64 2]) (ok:=fun _=>True) (okp:=fun _=>True) ?hr ?hp (fun _ hk=>hk) trivial (Below.refl _ _) (Nat.le_refl _) (by simp) ?_;(case hd=>rfl);(case hg=>rfl);(case hr=>first | (go_simp;done) | (go_simp;rfl));(case hp=>exact (Reps.one (show Kd.M (Kd.int .i64) _ _ _ 2 [.int .i64 2] from rfl) (Reps.none _ _)));intro v119 w17 ho18 hb hg_ hnew_;clear hg_ hnew_;(first | rw [← Ny118.out] at ho18 | (simp only [Int.reduceToNat] at ho18;rw [← Ny118.out] at ho18));have n0_:=aM (Kd.R_lower ho18 (below_size (zB HB.out)));have n1_:=aM (below_step (zB HB.out) hb);clear HB;have HO120:=n0_;have HB:=n1_;clear n0_ n1_;clear hb ho18))
          go_ret
          exact ⟨_,zF,zR HO120.out,zB HB.out⟩
         ·replace c16:=Bool.eq_false_iff.mpr c16
          subst c16
          have H1:(if a0=13 then (some (([2,1]:List Int))) else (if a0=16 then (r05_Takes.j3 kj11 a0 (a0==16)) else (r05_Takes.j3 kj11 a0 (a0==17))))=some r:=by rw [if_neg (show ¬ (false=true) by decide)] at H;exact H
          clear H
          have H:=H1
          clear H1
          by_cases c19:a0=13
          ·rw [if_pos c19] at H
           have c19b0:(a0==13)=true:=beq_iff_eq.mpr c19
           clear c19
           obtain ⟨y121,hy121⟩:∃ y_:List Int,y_=(([2,1]:List Int)):=⟨_,rfl⟩
           replace H:(some y121)=some r:=by first | (rw [hy121];with_reducible exact H) | (have H2_:=(Option.bind_some _ _).symm.trans H;rw [hy121];with_reducible exact H2_) | (have H2_:=(Option.bind_some _ _).symm.trans H;with_reducible exact H2_) | with_reducible exact H | (rw [hy121];exact H) | exact H
           have Ny121:=aM hy121
           clear hy121
           obtain rfl:=Option.some.inj H
           go_wp2_with (first | ((with_reducible refine gate_dst (N:=23) rfl ?_);refine Kd.R_lit (Kd.int .i64) _ 3 ?hg (N:=23) ?hd (xs:=([2,1]:List Int)) (inner:=[.int .i64 2,.int .i64 1]) (ok:=fun _=>True) (okp:=fun _=>True) ?hr ?hp (fun _ hk=>hk) trivial (Below.refl _ _) (Nat.le_refl _) (by simp) ?_;(case hd=>rfl);(case hg=>rfl);(case hr=>first | (go_simp;done) | (go_simp;rfl));(case hp=>exact (Reps.one (show Kd.M (Kd.int .i64) _ _ _ 2 [.int .i64 2] from rfl) (Reps.one (show Kd.M (Kd.int .i64) _ _ _ 1 [.int .i64 1] from rfl) (Reps.none _ _))));intro v122 w20 ho21 hb hg_ hnew_;clear hg_ hnew_;(first | rw [← Ny121.out] at ho21 | (simp only [Int.reduceToNat] at ho21;rw [← Ny121.out] at ho21));have n0_:=aM (Kd.R_lower ho21 (below_size (zB HB.out)));have n1_:=aM (below_step (zB HB.out) hb);clear HB;have HO123:=n0_;have HB:=n1_;clear n0_ n1_;clear hb ho21))
           go_ret
           exact ⟨_,zF,zR HO123.out,zB HB.out⟩
          ·rw [if_neg c19] at H
           have c19b0:(a0==13)=false:=beq_eq_false_iff_ne.mpr c19
           have HC22:=aM H
           clear H
           go_upto_if 24 with (fail)
           go_cut [24] (fun v24 wc=>∃ (kq:Nat) (x24_21:Bool),v24=.bool x24_21∧Aside0 (r05_Takes.j3 kq a0 x24_21=some r)∧Aside0 (kq≤kj11)∧Aside0 (Below w.heap.size w wc))
           case first=>
            have H:=HC22.out
            clear HC22
            by_cases c23:a0=16
            ·rw [if_pos c23] at H
             have c23b0:(a0==16)=true:=beq_iff_eq.mpr c23
             clear c23
             (first | rw [c23b0] | (simp only [i64_w,i32_w];rw [c23b0]) | skip)
             have H':=aM H
             clear H
             go_wp2
             go_meet
             case rel=>exact ⟨_,((a0==16)),(by first | rfl | (simp;done) | (simp [*];done)),H',⟨by have:=HJ1.out;have:=HJ6.out;have:=HJ11.out;first | omega | exact Nat.le_refl _⟩,⟨zB HB.out⟩⟩
            ·rw [if_neg c23] at H
             have c23b0:(a0==16)=false:=beq_eq_false_iff_ne.mpr c23
             (first | rw [c23b0] | (simp only [i64_w,i32_w];rw [c23b0]) | skip)
             have H':=aM H
             clear H
             go_wp2
             go_meet
             case rel=>exact ⟨_,((a0==17)),(by first | rfl | (simp;done) | (simp [*];done)),H',⟨by have:=HJ1.out;have:=HJ6.out;have:=HJ11.out;first | omega | exact Nat.le_refl _⟩,⟨zB HB.out⟩⟩
           case rest=>
            clear HC22 c19 c19b0
            obtain ⟨kq,x24_21,rfl,HA,HJ21,HB⟩:=hcut
            cases kq with
            | zero=>exact absurd HA.out (by simp [r05_Takes.j3])
            | succ kj21=>
             have H:=HA.out
             clear HA
             simp only [r05_Takes.j3] at H
             by_cases c24:x24_21=true
             ·subst c24
              have H1:(some (([3]:List Int)))=some r:=by rw [if_pos rfl] at H;exact H
              clear H
              have H:=H1
              clear H1
              obtain ⟨y124,hy124⟩:∃ y_:List Int,y_=(([3]:List Int)):=⟨_,rfl⟩
              replace H:(some y124)=some r:=by first | (rw [hy124];with_reducible exact H) | (have H2_:=(Option.bind_some _ _).symm.trans H;rw [hy124];with_reducible exact H2_) | (have H2_:=(Option.bind_some _ _).symm.trans H;with_reducible exact H2_) | with_reducible exact H | (rw [hy124];exact H) | exact H
              have Ny124:=aM hy124
              clear hy124
              obtain rfl:=Option.some.inj H
              go_wp2_with (first | ((with_reducible refine gate_dst (N:=27) rfl ?_);refine Kd.R_lit (Kd.int .i64) _ 3 ?hg (N:=27) ?hd (xs:=([3]:List Int)) (inner:=[.int .i64 3]) (ok:=fun _=>True) (okp:=fun _=>True) ?hr ?hp (fun _ hk=>hk) trivial (Below.refl _ _) (Nat.le_refl _) (by simp) ?_;(case hd=>rfl);(case hg=>rfl);(case hr=>first | (go_simp;done) | (go_simp;rfl));(case hp=>exact (Reps.one (show Kd.M (Kd.int .i64) _ _ _ 3 [.int .i64 3] from rfl) (Reps.none _ _)));intro v125 w25 ho26 hb hg_ hnew_;clear hg_ hnew_;(first | rw [← Ny124.out] at ho26 | (simp only [Int.reduceToNat] at ho26;rw [← Ny124.out] at ho26));have n0_:=aM (Kd.R_lower ho26 (below_size (zB HB.out)));have n1_:=aM (below_step (zB HB.out) hb);clear HB;have HO126:=n0_;have HB:=n1_;clear n0_ n1_;clear hb ho26))
              go_ret
              exact ⟨_,zF,zR HO126.out,zB HB.out⟩
             ·replace c24:=Bool.eq_false_iff.mpr c24
              subst c24
              have H1:(if a0=18 then (some (([3,1]:List Int))) else (if a0=19 then (some (([3,2]:List Int))) else (if a0=22 then (some (([1]:List Int))) else (if a0=27 then (some (([1]:List Int))) else (some ([]:List Int))))))=some r:=by rw [if_neg (show ¬ (false=true) by decide)] at H;exact H
              clear H
              have H:=H1
              clear H1
              by_cases c27:a0=18
              ·rw [if_pos c27] at H
               have c27b0:(a0==18)=true:=beq_iff_eq.mpr c27
               clear c27
               obtain ⟨y127,hy127⟩:∃ y_:List Int,y_=(([3,1]:List Int)):=⟨_,rfl⟩
               replace H:(some y127)=some r:=by first | (rw [hy127];with_reducible exact H) | (have H2_:=(Option.bind_some _ _).symm.trans H;rw [hy127];with_reducible exact H2_) | (have H2_:=(Option.bind_some _ _).symm.trans H;with_reducible exact H2_) | with_reducible exact H | (rw [hy127];exact H) | exact H
               have Ny127:=aM hy127
               clear hy127
               obtain rfl:=Option.some.inj H
               go_wp2_with (first | ((with_reducible refine gate_dst (N:=30) rfl ?_);refine Kd.R_lit (Kd.int .i64) _ 3 ?hg (N:=30) ?hd (xs:=([3,1]:List Int)) (inner:=[.int .i64 3,.int .i64 1]) (ok:=fun _=>True) (okp:=fun _=>True) ?hr ?hp (fun _ hk=>hk) trivial (Below.refl _ _) (Nat.le_refl _) (by simp) ?_;(case hd=>rfl);(case hg=>rfl);(case hr=>first | (go_simp;done) | (go_simp;rfl));(case hp=>exact (Reps.one (show Kd.M (Kd.int .i64) _ _ _ 3 [.int .i64 3] from rfl) (Reps.one (show Kd.M (Kd.int .i64) _ _ _ 1 [.int .i64 1] from rfl) (Reps.none _ _))));intro v128 w28 ho29 hb hg_ hnew_;clear hg_ hnew_;(first | rw [← Ny127.out] at ho29 | (simp only [Int.reduceToNat] at ho29;rw [← Ny127.out] at ho29));have n0_:=aM (Kd.R_lower ho29 (below_size (zB HB.out)));have n1_:=aM (below_step (zB HB.out) hb);clear HB;have HO129:=n0_;have HB:=n1_;clear n0_ n1_;clear hb ho29))
               go_ret
               exact ⟨_,zF,zR HO129.out,zB HB.out⟩
              ·rw [if_neg c27] at H
               have c27b0:(a0==18)=false:=beq_eq_false_iff_ne.mpr c27
               by_cases c30:a0=19
               ·rw [if_pos c30] at H
                have c30b0:(a0==19)=true:=beq_iff_eq.mpr c30
                clear c30
                obtain ⟨y130,hy130⟩:∃ y_:List Int,y_=(([3,2]:List Int)):=⟨_,rfl⟩
                replace H:(some y130)=some r:=by first | (rw [hy130];with_reducible exact H) | (have H2_:=(Option.bind_some _ _).symm.trans H;rw [hy130];with_reducible exact H2_) | (have H2_:=(Option.bind_some _ _).symm.trans H;with_reducible exact H2_) | with_reducible exact H | (rw [hy130];exact H) | exact H
                have Ny130:=aM hy130
                clear hy130
                obtain rfl:=Option.some.inj H
                go_wp2_with (first | ((with_reducible refine gate_dst (N:=33) rfl ?_);refine Kd.R_lit (Kd.int .i64) _ 3 ?hg (N:=33) ?hd (xs:=([3,2]:List Int)) (inner:=[.int .i64 3,.int .i64 2]) (ok:=fun _=>True) (okp:=fun _=>True) ?hr ?hp (fun _ hk=>hk) trivial (Below.refl _ _) (Nat.le_refl _) (by simp) ?_;(case hd=>rfl);(case hg=>rfl);(case hr=>first | (go_simp;done) | (go_simp;rfl));(case hp=>exact (Reps.one (show Kd.M (Kd.int .i64) _ _ _ 3 [.int .i64 3] from rfl) (Reps.one (show Kd.M (Kd.int .i64) _ _ _ 2 [.int .i64 2] from rfl) (Reps.none _ _))));intro v131 w31 ho32 hb hg_ hnew_;clear hg_ hnew_;(first | rw [← Ny130.out] at ho32 | (simp only [Int.reduceToNat] at ho32;rw [← Ny130.out] at ho32));have n0_:=aM (Kd.R_lower ho32 (below_size (zB HB.out)));have n1_:=aM (below_step (zB HB.out) hb);clear HB;have HO132:=n0_;have HB:=n1_;clear n0_ n1_;clear hb ho32))
                go_ret
                exact ⟨_,zF,zR HO132.out,zB HB.out⟩
               ·rw [if_neg c30] at H
                have c30b0:(a0==19)=false:=beq_eq_false_iff_ne.mpr c30
                by_cases c33:a0=22
                ·rw [if_pos c33] at H
                 have c33b0:(a0==22)=true:=beq_iff_eq.mpr c33
                 clear c33
                 obtain ⟨y133,hy133⟩:∃ y_:List Int,y_=(([1]:List Int)):=⟨_,rfl⟩
                 replace H:(some y133)=some r:=by first | (rw [hy133];with_reducible exact H) | (have H2_:=(Option.bind_some _ _).symm.trans H;rw [hy133];with_reducible exact H2_) | (have H2_:=(Option.bind_some _ _).symm.trans H;with_reducible exact H2_) | with_reducible exact H | (rw [hy133];exact H) | exact H
                 have Ny133:=aM hy133
                 clear hy133
                 obtain rfl:=Option.some.inj H
                 go_wp2_with (first | ((with_reducible refine gate_dst (N:=37) rfl ?_);refine Kd.R_lit (Kd.int .i64) _ 3 ?hg (N:=37) ?hd (xs:=([1]:List Int)) (inner:=[.int .i64 1]) (ok:=fun _=>True) (okp:=fun _=>True) ?hr ?hp (fun _ hk=>hk) trivial (Below.refl _ _) (Nat.le_refl _) (by simp) ?_;(case hd=>rfl);(case hg=>rfl);(case hr=>first | (go_simp;done) | (go_simp;rfl));(case hp=>exact (Reps.one (show Kd.M (Kd.int .i64) _ _ _ 1 [.int .i64 1] from rfl) (Reps.none _ _)));intro v134 w34 ho35 hb hg_ hnew_;clear hg_ hnew_;(first | rw [← Ny133.out] at ho35 | (simp only [Int.reduceToNat] at ho35;rw [← Ny133.out] at ho35));have n0_:=aM (Kd.R_lower ho35 (below_size (zB HB.out)));have n1_:=aM (below_step (zB HB.out) hb);clear HB;have HO135:=n0_;have HB:=n1_;clear n0_ n1_;clear hb ho35))
                 go_ret
                 exact ⟨_,zF,zR HO135.out,zB HB.out⟩
                ·rw [if_neg c33] at H
                 have c33b0:(a0==22)=false:=beq_eq_false_iff_ne.mpr c33
                 by_cases c36:a0=27
                 ·rw [if_pos c36] at H
                  have c36b0:(a0==27)=true:=beq_iff_eq.mpr c36
                  clear c36
                  obtain ⟨y136,hy136⟩:∃ y_:List Int,y_=(([1]:List Int)):=⟨_,rfl⟩
                  replace H:(some y136)=some r:=by first | (rw [hy136];with_reducible exact H) | (have H2_:=(Option.bind_some _ _).symm.trans H;rw [hy136];with_reducible exact H2_) | (have H2_:=(Option.bind_some _ _).symm.trans H;with_reducible exact H2_) | with_reducible exact H | (rw [hy136];exact H) | exact H
                  have Ny136:=aM hy136
                  clear hy136
                  obtain rfl:=Option.some.inj H
                  go_wp2_with (first | ((with_reducible refine gate_dst (N:=37) rfl ?_);refine Kd.R_lit (Kd.int .i64) _ 3 ?hg (N:=37) ?hd (xs:=([1]:List Int)) (inner:=[.int .i64 1]) (ok:=fun _=>True) (okp:=fun _=>True) ?hr ?hp (fun _ hk=>hk) trivial (Below.refl _ _) (Nat.le_refl _) (by simp) ?_;(case hd=>rfl);(case hg=>rfl);(case hr=>first | (go_simp;done) | (go_simp;rfl));(case hp=>exact (Reps.one (show Kd.M (Kd.int .i64) _ _ _ 1 [.int .i64 1] from rfl) (Reps.none _ _)));intro v137 w37 ho38 hb hg_ hnew_;clear hg_ hnew_;(first | rw [← Ny136.out] at ho38 | (simp only [Int.reduceToNat] at ho38;rw [← Ny136.out] at ho38));have n0_:=aM (Kd.R_lower ho38 (below_size (zB HB.out)));have n1_:=aM (below_step (zB HB.out) hb);clear HB;have HO138:=n0_;have HB:=n1_;clear n0_ n1_;clear hb ho38))
                  go_ret
                  exact ⟨_,zF,zR HO138.out,zB HB.out⟩
                 ·rw [if_neg c36] at H
                  have c36b0:(a0==27)=false:=beq_eq_false_iff_ne.mpr c36
                  obtain rfl:=Option.some.inj H
                  go_wp2
                  go_ret
                  exact ⟨_,zF,by first | exact Kd.R_nil _ _ _ _ _ | exact Kd.N_nil _ _ _ _ _ | exact Kd.V_nil _ _ _ _ _ | exact Kd.Q_nil _ _ _ _ _ | exact Kd.S_nil _ _ _ _ _,zB HB.out⟩
end Go.Proofs.Ytkjdblbgmomieaa.PSh
end
-- from YtkjdblbgmomieaaShOps
section
namespace Go.Proofs.Ytkjdblbgmomieaa.PSh
open Go.RowKit Go.Proofs.YtkjdblbgmomieaaW.PrintWords Go.Proofs.YtkjdblbgmomieaaW.PrintLast Go.Proofs.YtkjdblbgmomieaaW.PrintMore Go.Proofs.Ytkjdblbgmomieaa.Str Go.Proofs.Ytkjdblbgmomieaa.Dig
set_option linter.unusedVariables false
set_option linter.unusedSimpArgs false
def typedI (op:Int):Bool:=op==20 || op==21 || op==24
def makesI (op ty:Int):Int:=if typedI op=true then ty else (opOf op).m
def takesI (op:Int):List Int:=nz (opOf op).t0++nz (opOf op).t1
theorem typed_c (a:Int):ops_typed.f a=some (typedI a):=by
  unfold ops_typed.f typedI
  by_cases h1:a=20
  · simp [h1]
  · by_cases h2:a=21
    · simp [h2]
    · simp [h1,h2]
theorem rtyped_c (a:Int):r05_typed.f a=some (typedI a):=typed_c a
theorem of_c (a:Int):ops_of.f a=some ((opOf a).w,(opOf a).t0,(opOf a).t1,(opOf a).m,(opOf a).traps,(opOf a).reads,(opOf a).writes,(opOf a).seen,(opOf a).ends):=rfl
theorem makes_few:∀ n:Nat,n<30→∀ b:Bool,r05_typed.f (n:Int)=some b→b=true∨r05_Makes.f 41 (n:Int) 0 0 0 [] [] (⟨#[]⟩:ByteArray) 0=some (opOf (n:Int)).m:=by decide+kernel
theorem makes_c (a i n t:Int) (l m:List Int) (s:ByteArray) (z:Int):ops_Makes.f a i n t l m s z=some (makesI a t)∧r05_Makes.f 41 a i n t l m s z=some (makesI a t):=by
  cases hb:typedI a with
  | true=>
    have e:makesI a t=t:=if_pos hb
    rw [e]
    exact ⟨by simp [ops_Makes.f,typed_c,hb],by simp [r05_Makes.f,rtyped_c,hb]⟩
  | false=>
    have e:makesI a t=(opOf a).m:=if_neg (by rw [hb];decide)
    rw [e]
    refine ⟨by simp [ops_Makes.f,typed_c,hb,of_c],?_⟩
    by_cases h:a<1∨29<a
    · have e:opOf a=noRow:=if_pos h
      have b:∀ c:Int,1≤c→c≤29→(a==c)=false:=fun c _ _=>beq_eq_false_iff_ne.mpr (by omega)
      have ne:∀ c:Int,1≤c→c≤29→¬ a=c:=by omega
      rw [e]
      simp [r05_Makes.f,rtyped_c,hb,r05_Makes.j0,r05_Makes.j1,b,ne 1 (by omega) (by omega),ne 2 (by omega) (by omega),ne 3 (by omega) (by omega),ne 4 (by omega) (by omega),ne 5 (by omega) (by omega),ne 6 (by omega) (by omega),ne 7 (by omega) (by omega),ne 8 (by omega) (by omega),ne 9 (by omega) (by omega),ne 10 (by omega) (by omega),ne 11 (by omega) (by omega),ne 12 (by omega) (by omega),ne 15 (by omega) (by omega),ne 16 (by omega) (by omega),ne 17 (by omega) (by omega)]
      rfl
    · obtain ⟨q,rfl⟩:∃ q:Nat,a=q:=⟨a.toNat,by omega⟩
      rcases makes_few q (by omega) false (by rw [rtyped_c,hb]) with h8 | h8
      · cases h8
      · rw [← h8]
        simp only [r05_Makes.f,rtyped_c,hb,Option.bind_some]
        rfl
theorem takes_few:∀ n:Nat,n<30→r05_Takes.f 40 (n:Int)=some (takesI (n:Int)):=by decide+kernel
theorem rtakes_c (a:Int):r05_Takes.f 40 a=some (takesI a):=by
  by_cases h:a<1∨29<a
  · have e:takesI a=[]:=by unfold takesI opOf;rw [if_pos h];rfl
    have ne:∀ c:Int,1≤c→c≤29→c≠a:=by omega
    have b:∀ c:Int,1≤c→c≤29→(a==c)=false:=fun c _ _=>beq_eq_false_iff_ne.mpr (by omega)
    rw [e]
    unfold r05_Takes.f
    have e:∀ q:Bool,q=false→r05_Takes.j0 40 a q=some []:=by
      rintro q rfl
      simp [r05_Takes.j0,r05_Takes.j1,r05_Takes.j2,r05_Takes.j3,b,(ne 9 (by omega) (by omega)).symm,(ne 11 (by omega) (by omega)).symm,(ne 12 (by omega) (by omega)).symm,(ne 15 (by omega) (by omega)).symm,(ne 13 (by omega) (by omega)).symm,(ne 16 (by omega) (by omega)).symm,(ne 18 (by omega) (by omega)).symm,(ne 19 (by omega) (by omega)).symm,(ne 22 (by omega) (by omega)).symm,(ne 14 (by omega) (by omega)).symm,(ne 25 (by omega) (by omega)).symm,(ne 17 (by omega) (by omega)).symm,(ne 27 (by omega) (by omega)).symm]
    by_cases g:a≥2
    · rw [if_pos g];exact e _ (decide_eq_false (by omega))
    · rw [if_neg g];exact e _ rfl
  · obtain ⟨n,rfl⟩:∃ n:Nat,a=n:=⟨a.toNat,by omega⟩
    exact takes_few n (by omega)
theorem dig_nat (d:Nat) (h:d<10):(UInt8.ofNat (48+d)).toNat=48+d:=by
  rw [UInt8.toNat_ofNat'];omega
theorem one_byte (d:Int) (h0:0≤d) (h1:d<10):strOfNums [(wrap64 (48+d)) % 256]=mk [UInt8.ofNat (48+d.toNat)]:=by
  apply nums_one
  rw [dig_nat _ (by omega),w64 (by omega) (by omega)]
  omega
theorem ref_loop (x0:Int):∀ (m:Nat) (k4:Int) (acc:List UInt8),k4.natAbs=m→-9223372036854775808≤k4→k4≤9223372036854775807→acc.length+(pd k4.natAbs).length≤100→
    Ev (fun k=>r01_Print.l0 k x0 (mk acc) k4) (mk (if x0<0 then 45::(pd k4.natAbs++acc) else pd k4.natAbs++acc)):=by
  intro m
  induction m using Nat.strongRecOn with
  | _ m ih=>
    intro k4 acc hm hlo hhi hlen
    by_cases hz:k4=0
    · subst hz
      simp only [Int.natAbs_zero,pd_zero,List.nil_append] at hlen ⊢
      have hlen2:acc.length≤100:=by simpa using hlen
      refine Ev.step (f:=fun _=>if x0<0 then some (mk [45]++mk acc) else some (mk acc)) (fun k=>?_) ?_
      · simp only [r01_Print.l0]
        rw [if_pos trivial]
        by_cases h:x0<0
        · rw [if_pos h,if_pos h,if_pos (by rw [mk_size];omega)]
        · rw [if_neg h,if_neg h]
      · refine ev_if (fun h=>?_) (fun h=>?_)
        · rw [if_pos h,mk_append];exact Ev.now _
        · rw [if_neg h];exact Ev.now _
    · have hp:=pd_pos (n:=k4.natAbs) (by omega)
      have hq:(k4.tdiv 10).natAbs=k4.natAbs / 10:=by rw [Int.natAbs_tdiv];rfl
      have hr:(k4.tmod 10).natAbs=k4.natAbs % 10:=by rw [Int.natAbs_tmod];rfl
      have hb:-9223372036854775808≤k4.tdiv 10∧k4.tdiv 10≤9223372036854775807:=by omega
      have hw:wrap64 (k4.tdiv 10)=k4.tdiv 10:=w64 hb.1 hb.2
      have hl2:(UInt8.ofNat (48+k4.natAbs % 10)::acc).length+(pd (k4.tdiv 10).natAbs).length≤100:=by
        rw [hq];rw [hp] at hlen;simp at hlen ⊢;omega
      have hacc:acc.length≤100:=by omega
      have key:=ih (k4.tdiv 10).natAbs (by omega) (k4.tdiv 10) (UInt8.ofNat (48+k4.natAbs % 10)::acc) rfl hb.1 hb.2 hl2
      have e:(if x0<0 then 45::(pd (k4.tdiv 10).natAbs++UInt8.ofNat (48+k4.natAbs % 10)::acc) else pd (k4.tdiv 10).natAbs++UInt8.ofNat (48+k4.natAbs % 10)::acc)=(if x0<0 then 45::(pd k4.natAbs++acc) else pd k4.natAbs++acc):=by
        rw [hp,hq];simp
      rw [e] at key
      refine Ev.step (f:=fun k=>r01_Print.l0 k x0 (mk (UInt8.ofNat (48+k4.natAbs % 10)::acc)) (k4.tdiv 10)) (fun k=>?_) key
      have hsz:∀ c,(mk [c]).size+(mk acc).size≤9223372036854775807:=fun c=>by rw [mk_size,mk_size];simp;omega
      simp only [r01_Print.l0]
      rw [if_neg hz]
      by_cases hs:k4.tmod 10<0
      · have e1:wrap64 (-(k4.tmod 10))=((k4.natAbs % 10:Nat):Int):=by rw [w64 (by omega) (by omega)];omega
        rw [if_pos hs,e1]
        simp only [Option.bind_some]
        rw [one_byte _ (by omega) (by omega),Int.toNat_natCast,if_pos (hsz _),mk_append,hw]
        rfl
      · have e1:k4.tmod 10=((k4.natAbs % 10:Nat):Int):=by omega
        rw [if_neg hs,e1]
        simp only [Option.bind_some]
        rw [one_byte _ (by omega) (by omega),Int.toNat_natCast,if_pos (hsz _),mk_append,hw]
        rfl
theorem ref_print (a:Int) (h0:-9223372036854775808≤a) (h1:a≤9223372036854775807):Ev (fun k=>r01_Print.f k a) (mk (digs a)):=by
  unfold r01_Print.f
  refine ev_if (fun h=>?_) (fun h=>?_)
  · subst h;exact Ev.now _
  · have hl:=pd_len 30 a.natAbs (by omega)
    have:=ref_loop a _ a [] rfl h0 h1 (by simp;omega)
    have e:(if a<0 then 45::(pd a.natAbs++[]) else pd a.natAbs++[])=digs a:=by
      unfold digs;rw [if_neg h];simp
    rw [e] at this
    exact this
theorem digs_len (n:Int) (h0:-9223372036854775808≤n) (h1:n≤9223372036854775807):(digs n).length≤20:=by
  have h:=pd_len 19 n.natAbs (by omega)
  unfold digs
  split
  · simp
  · split
    · simp;omega
    · omega
theorem print_c (n:Int) (h0:-9223372036854775808≤n) (h1:n≤9223372036854775807):digits_Print.f n=some (mk (digs n)):=by
  unfold digits_Print.f
  rw [if_pos h0,if_pos h1]
theorem small_c (n:Int) (h0:-9223372036854775808≤n) (h1:n≤9223372036854775807):digits_Small.f n=some (mk (digs n)):=by
  unfold digits_Small.f
  rw [print_c n h0 h1]
  rfl
end Go.Proofs.Ytkjdblbgmomieaa.PSh
end
