import Derived.Test.YtkjdblbgmomieaaMr2
import Derived.Test.YtkjdblbgmomieaaMr12
import Derived.Test.YtkjdblbgmomieaaMr13
import Derived.Test.YtkjdblbgmomieaaMr3
-- from YtkjdblbgmomieaaPShx21
section
namespace Go.Proofs.Ytkjdblbgmomieaa.PSh
set_option maxHeartbeats 8000000
set_option maxRecDepth 100000
open Go.RowKit Go.Proofs.YtkjdblbgmomieaaW.PrintWords Go.Proofs.YtkjdblbgmomieaaW.PrintLast Go.Proofs.YtkjdblbgmomieaaW.PrintMore Go.Proofs.Ytkjdblbgmomieaa.Zip
attribute [local go_sem] max2_int min2_int max_two min_two max_three min_three max_four min_four   -- for this text's walks alone
set_option linter.unusedVariables false
set_option linter.unusedSimpArgs false
mutual
def r01_Parse.j0:Nat→ByteArray→ByteArray→Bool→Bool→Option (Int × Int)
 | 0,_,_,_,_=>none
 | k+1,x0,x4,x5,x16=>if x16=true then (if 1≤(x0.size:Int) then (r01_Parse.j1 k (x0.extract 1 x0.size) true) else (none)) else (r01_Parse.j1 k x4 x5)
def r01_Parse.j1:Nat→ByteArray→Bool→Option (Int × Int)
 | 0,_,_=>none
 | k+1,x4,x5=>(r01_digits.f k x4).bind fun t313=>(if t313=true then (if x5=true then (r01_Parse.j2 k x4 x5 (x4.toList==([48]:List UInt8))) else (r01_Parse.j2 k x4 x5 false)) else (r01_Parse.j2 k x4 x5 true))
def r01_Parse.j2:Nat→ByteArray→Bool→Bool→Option (Int × Int)
 | 0,_,_,_=>none
 | k+1,x4,x5,x28=>if x28=true then (some (0,3)) else (if x5=true then ((r01_fits.f k x4 (⟨#[57,50,50,51,51,55,50,48,51,54,56,53,52,55,55,53,56,48,56]⟩:ByteArray)).bind fun t314=>(if t314=true then (r01_Parse.j3 k x4 x5 false) else (r01_Parse.j3 k x4 x5 true))) else ((r01_fits.f k x4 (⟨#[57,50,50,51,51,55,50,48,51,54,56,53,52,55,55,53,56,48,55]⟩:ByteArray)).bind fun t315=>(r01_Parse.j3 k x4 x5 (!t315))))
def r01_Parse.j3:Nat→ByteArray→Bool→Bool→Option (Int × Int)
 | 0,_,_,_=>none
 | k+1,x4,x5,x43=>if x43=true then (some (0,18)) else (r01_Parse.l0 k x4 x5 0 0)
def r01_Parse.l0:Nat→ByteArray→Bool→Int→Int→Option (Int × Int)
 | 0,_,_,_,_=>none
 | k+1,x4,x5,x6,x7=>if x7<(x4.size:Int) then (if 0≤x7 then (if x5=true then (r01_Parse.l0 k x4 x5 (wrap64 ((wrap64 (x6 * 10)) - (wrap64 ((wrap64 (bt x4 x7)) - 48)))) (wrap64 (x7+1))) else (r01_Parse.l0 k x4 x5 (wrap64 ((wrap64 (x6 * 10))+(wrap64 ((wrap64 (bt x4 x7)) - 48)))) (wrap64 (x7+1)))) else (none)) else (some (x6,0))
end
def r01_Parse.f (k:Nat) (a0:ByteArray):Option (Int × Int):=if a0.toList=([]:List UInt8) then (r01_Parse.j0 k a0 a0 false false) else (if 0<(a0.size:Int) then (r01_Parse.j0 k a0 a0 false ((bt a0 0)==45)) else (none))
theorem r01_Parse.calls (k:Nat) (a0:ByteArray) (r1:Int) (r2:Int) (w:World) (h:r01_Parse.f k a0=some (r1,r2)):
  Calls Try.prog 119 #[.string a0] w fun e w'=>e=.returned (.tuple #[.int .i64 r1,.int .i64 r2])∧Drawn0 w w':=by
 have H:(if a0.toList=([]:List UInt8) then (r01_Parse.j0 k a0 a0 false false) else (if 0<(a0.size:Int) then (r01_Parse.j0 k a0 a0 false ((bt a0 0)==45)) else (none)))=some (r1,r2):=h
 clear h
 have HC2:=aM H
 clear H
 go_enter Try.func119,Try.ntmps119
 go_upto_region 3 with (fail)
 go_cut [16] (fun v16 wc=>∃ (kq:Nat) (x16_1:Bool),v16=.bool x16_1∧Aside0 (r01_Parse.j0 kq a0 a0 false x16_1=some (r1,r2))∧Aside0 (kq≤k)∧Drawn0 w wc)
 case first=>
  have H:=HC2.out
  clear HC2
  by_cases c3:a0.toList=([]:List UInt8)
  ·rw [if_pos c3] at H
   have c3b0:(a0.toList==([]:List UInt8))=true:=beq_iff_eq.mpr c3
   clear c3
   (first | rw [c3b0] | (simp only [i64_w,i32_w];rw [c3b0]) | skip)
   have H':=aM H
   clear H
   go_wp2
   go_meet
   case rel=>exact ⟨_,(false),(by first | rfl | (simp;done) | (simp [*];done)),H',⟨by first | omega | exact Nat.le_refl _⟩,zQ⟩
  ·rw [if_neg c3] at H
   have c3b0:(a0.toList==([]:List UInt8))=false:=beq_eq_false_iff_ne.mpr c3
   (first | rw [c3b0] | (simp only [i64_w,i32_w];rw [c3b0]) | skip)
   by_cases c4:0<(a0.size:Int)
   ·rw [if_pos c4] at H
    have c4b0:decide (0<(a0.size:Int))=true:=decide_eq_true c4
    clear c4
    have H':=aM H
    clear H
    have q5:0<a0.size:=(by have:(0:Int)<(a0.size:Int):=of_decide_eq_true zS;omega)
    have hx5:∀ h:0<a0.size,((a0[0]'h).toNat:Int)=bt a0 0:=bt_at a0 0
    replace q5:=eq_true q5
    go_wp2
    go_meet
    case rel=>exact ⟨_,(((bt a0 0)==45)),(by first | rfl | (simp;done) | (simp [*];done)),H',⟨by first | omega | exact Nat.le_refl _⟩,zQ⟩
   ·rw [if_neg c4] at H
    exact absurd H (by simp)
 case rest=>
  clear HC2
  obtain ⟨kq,x16_1,rfl,HA,HJ1,⟨mc1,rfl⟩⟩:=hcut
  cases kq with
  | zero=>exact absurd HA.out (by simp [r01_Parse.j0])
  | succ kj1=>
   have H:=HA.out
   clear HA
   simp only [r01_Parse.j0] at H
   have HC6:=aM H
   clear H
   go_upto_if 16 with (fail)
   go_cut [4,5] (fun v4 v5 wc=>∃ (kq:Nat) (x4_5:ByteArray) (x5_5:Bool),v4=.string x4_5∧v5=.bool x5_5∧Aside0 (r01_Parse.j1 kq x4_5 x5_5=some (r1,r2))∧Aside0 (kq≤kj1)∧Drawn0 w wc)
   case first=>
    have H:=HC6.out
    clear HC6
    by_cases c7:x16_1=true
    ·subst c7
     have H1:(if 1≤(a0.size:Int) then (r01_Parse.j1 kj1 (a0.extract 1 a0.size) true) else (none))=some (r1,r2):=by rw [if_pos rfl] at H;exact H
     clear H
     have H:=H1
     clear H1
     by_cases c8:1≤(a0.size:Int)
     ·rw [if_pos c8] at H
      have c8b0:=eq_true c8
      clear c8
      have H':=aM H
      clear H
      go_wp2
      go_meet
      case rel=>exact ⟨_,(a0.extract 1 a0.size),(true),(by first | rfl | (simp;done) | (simp [*];done)),(by first | rfl | (simp;done) | (simp [*];done)),H',⟨by have:=HJ1.out;first | omega | exact Nat.le_refl _⟩,zQ⟩
     ·rw [if_neg c8] at H
      exact absurd H (by simp)
    ·replace c7:=Bool.eq_false_iff.mpr c7
     subst c7
     have H1:(r01_Parse.j1 kj1 a0 false)=some (r1,r2):=by rw [if_neg (show ¬ (false=true) by decide)] at H;exact H
     clear H
     have H:=H1
     clear H1
     have H':=aM H
     clear H
     go_wp2
     go_meet
     case rel=>exact ⟨_,(a0),(false),(by first | rfl | (simp;done) | (simp [*];done)),(by first | rfl | (simp;done) | (simp [*];done)),H',⟨by have:=HJ1.out;first | omega | exact Nat.le_refl _⟩,zQ⟩
   case rest=>
    clear HC6
    obtain ⟨kq,x4_5,x5_5,rfl,rfl,HA,HJ5,⟨mc5,rfl⟩⟩:=hcut
    cases kq with
    | zero=>exact absurd HA.out (by simp [r01_Parse.j1])
    | succ kj5=>
     have H:=HA.out
     clear HA
     simp only [r01_Parse.j1] at H
     have HC9:=aM H
     clear H
     go_upto_region 6 with (fail)
     go_cut [28] (fun v28 wc=>∃ (kq:Nat) (x28_8:Bool),v28=.bool x28_8∧Aside0 (r01_Parse.j2 kq x4_5 x5_5 x28_8=some (r1,r2))∧Aside0 (kq≤kj5)∧Drawn0 w wc)
     case first=>
      have H:=HC9.out
      clear HC9
      replace H:=Option.bind_eq_some_iff.mp H
      obtain ⟨t313,A100,H⟩:=H
      have A10:=aM A100
      clear A100
      by_cases c11:t313=true
      ·subst c11
       have H1:(if x5_5=true then (r01_Parse.j2 kj5 x4_5 x5_5 (x4_5.toList==([48]:List UInt8))) else (r01_Parse.j2 kj5 x4_5 x5_5 false))=some (r1,r2):=by rw [if_pos rfl] at H;exact H
       clear H
       have H:=H1
       clear H1
       by_cases c12:x5_5=true
       ·subst c12
        have H1:(r01_Parse.j2 kj5 x4_5 true (x4_5.toList==([48]:List UInt8)))=some (r1,r2):=by rw [if_pos rfl] at H;exact H
        clear H
        have H:=H1
        clear H1
        have H':=aM H
        clear H
        go_wp2_with (first | ((with_reducible refine gate_callee (f:=122) rfl ?_);refine goesL_ (some 20) rfl rfl Try.func122 (by kernel_rfl) rfl #[.string x4_5] rfl zA ?_;(with_reducible refine (r01_digits.calls kj5 x4_5 true _ A10.out).mono ?_);rintro e w' ⟨rfl,⟨nd,rfl⟩⟩;refine ⟨_,rfl,?_⟩))
        go_meet
        case rel=>exact ⟨_,((x4_5.toList==([48]:List UInt8))),(by first | rfl | (simp;done) | (simp [*];done)),H',⟨by have:=HJ1.out;have:=HJ5.out;first | omega | exact Nat.le_refl _⟩,zQ⟩
       ·replace c12:=Bool.eq_false_iff.mpr c12
        subst c12
        have H1:(r01_Parse.j2 kj5 x4_5 false false)=some (r1,r2):=by rw [if_neg (show ¬ (false=true) by decide)] at H;exact H
        clear H
        have H:=H1
        clear H1
        have H':=aM H
        clear H
        go_wp2_with (first | ((with_reducible refine gate_callee (f:=122) rfl ?_);refine goesL_ (some 20) rfl rfl Try.func122 (by kernel_rfl) rfl #[.string x4_5] rfl zA ?_;(with_reducible refine (r01_digits.calls kj5 x4_5 true _ A10.out).mono ?_);rintro e w' ⟨rfl,⟨nd,rfl⟩⟩;refine ⟨_,rfl,?_⟩))
        go_meet
        case rel=>exact ⟨_,(false),(by first | rfl | (simp;done) | (simp [*];done)),H',⟨by have:=HJ1.out;have:=HJ5.out;first | omega | exact Nat.le_refl _⟩,zQ⟩
      ·replace c11:=Bool.eq_false_iff.mpr c11
       subst c11
       have H1:(r01_Parse.j2 kj5 x4_5 x5_5 true)=some (r1,r2):=by rw [if_neg (show ¬ (false=true) by decide)] at H;exact H
       clear H
       have H:=H1
       clear H1
       have H':=aM H
       clear H
       go_wp2_with (first | ((with_reducible refine gate_callee (f:=122) rfl ?_);refine goesL_ (some 20) rfl rfl Try.func122 (by kernel_rfl) rfl #[.string x4_5] rfl zA ?_;(with_reducible refine (r01_digits.calls kj5 x4_5 false _ A10.out).mono ?_);rintro e w' ⟨rfl,⟨nd,rfl⟩⟩;refine ⟨_,rfl,?_⟩))
       go_meet
       case rel=>exact ⟨_,(true),(by first | rfl | (simp;done) | (simp [*];done)),H',⟨by have:=HJ1.out;have:=HJ5.out;first | omega | exact Nat.le_refl _⟩,zQ⟩
     case rest=>
      clear HC9
      obtain ⟨kq,x28_8,rfl,HA,HJ8,⟨mc8,rfl⟩⟩:=hcut
      cases kq with
      | zero=>exact absurd HA.out (by simp [r01_Parse.j2])
      | succ kj8=>
       have H:=HA.out
       clear HA
       simp only [r01_Parse.j2] at H
       by_cases c13:x28_8=true
       ·subst c13
        have H1:(some (0,3))=some (r1,r2):=by rw [if_pos rfl] at H;exact H
        clear H
        have H:=H1
        clear H1
        simp only [Option.some.injEq,Prod.mk.injEq] at H
        obtain ⟨rfl,rfl⟩:=H
        go_wp2
        go_ret2
        exact ⟨by first | rfl | (simp;done) | (simp [*];done),zQ⟩
       ·replace c13:=Bool.eq_false_iff.mpr c13
        subst c13
        have H1:(if x5_5=true then ((r01_fits.f kj8 x4_5 (⟨#[57,50,50,51,51,55,50,48,51,54,56,53,52,55,55,53,56,48,56]⟩:ByteArray)).bind fun t314=>(if t314=true then (r01_Parse.j3 kj8 x4_5 x5_5 false) else (r01_Parse.j3 kj8 x4_5 x5_5 true))) else ((r01_fits.f kj8 x4_5 (⟨#[57,50,50,51,51,55,50,48,51,54,56,53,52,55,55,53,56,48,55]⟩:ByteArray)).bind fun t315=>(r01_Parse.j3 kj8 x4_5 x5_5 (!t315))))=some (r1,r2):=by rw [if_neg (show ¬ (false=true) by decide)] at H;exact H
        clear H
        have H:=H1
        clear H1
        have HC14:=aM H
        clear H
        go_upto_region 8 with (fail)
        go_cut [43] (fun v43 wc=>∃ (kq:Nat) (x43_13:Bool),v43=.bool x43_13∧Aside0 (r01_Parse.j3 kq x4_5 x5_5 x43_13=some (r1,r2))∧Aside0 (kq≤kj8)∧Drawn0 w wc)
        case first=>
         have H:=HC14.out
         clear HC14
         by_cases c15:x5_5=true
         ·subst c15
          have H1:((r01_fits.f kj8 x4_5 (⟨#[57,50,50,51,51,55,50,48,51,54,56,53,52,55,55,53,56,48,56]⟩:ByteArray)).bind fun t314=>(if t314=true then (r01_Parse.j3 kj8 x4_5 true false) else (r01_Parse.j3 kj8 x4_5 true true)))=some (r1,r2):=by rw [if_pos rfl] at H;exact H
          clear H
          have H:=H1
          clear H1
          replace H:=Option.bind_eq_some_iff.mp H
          obtain ⟨t314,A160,H⟩:=H
          have A16:=aM A160
          clear A160
          by_cases c17:t314=true
          ·subst c17
           have H1:(r01_Parse.j3 kj8 x4_5 true false)=some (r1,r2):=by rw [if_pos rfl] at H;exact H
           clear H
           have H:=H1
           clear H1
           have H':=aM H
           clear H
           go_wp2_with (first | (go_at_call 123;(with_reducible refine (r01_fits.calls kj8 x4_5 (⟨#[57,50,50,51,51,55,50,48,51,54,56,53,52,55,55,53,56,48,56]⟩:ByteArray) true _ A16.out).mono ?_);rintro e w' ⟨rfl,⟨nd,rfl⟩⟩))
           go_meet
           case rel=>exact ⟨_,(false),(by first | rfl | (simp;done) | (simp [*];done)),H',⟨by have:=HJ1.out;have:=HJ5.out;have:=HJ8.out;first | omega | exact Nat.le_refl _⟩,zQ⟩
          ·replace c17:=Bool.eq_false_iff.mpr c17
           subst c17
           have H1:(r01_Parse.j3 kj8 x4_5 true true)=some (r1,r2):=by rw [if_neg (show ¬ (false=true) by decide)] at H;exact H
           clear H
           have H:=H1
           clear H1
           have H':=aM H
           clear H
           go_wp2_with (first | (go_at_call 123;(with_reducible refine (r01_fits.calls kj8 x4_5 (⟨#[57,50,50,51,51,55,50,48,51,54,56,53,52,55,55,53,56,48,56]⟩:ByteArray) false _ A16.out).mono ?_);rintro e w' ⟨rfl,⟨nd,rfl⟩⟩))
           go_meet
           case rel=>exact ⟨_,(true),(by first | rfl | (simp;done) | (simp [*];done)),H',⟨by have:=HJ1.out;have:=HJ5.out;have:=HJ8.out;first | omega | exact Nat.le_refl _⟩,zQ⟩
         ·replace c15:=Bool.eq_false_iff.mpr c15
          subst c15
          have H1:((r01_fits.f kj8 x4_5 (⟨#[57,50,50,51,51,55,50,48,51,54,56,53,52,55,55,53,56,48,55]⟩:ByteArray)).bind fun t315=>(r01_Parse.j3 kj8 x4_5 false (!t315)))=some (r1,r2):=by rw [if_neg (show ¬ (false=true) by decide)] at H;exact H
          clear H
          have H:=H1
          clear H1
          replace H:=Option.bind_eq_some_iff.mp H
          obtain ⟨t315,A180,H⟩:=H
          have A18:=aM A180
          clear A180
          have H':=aM H
          clear H
          go_wp2_with (first | (go_at_call 123;(with_reducible refine (r01_fits.calls kj8 x4_5 (⟨#[57,50,50,51,51,55,50,48,51,54,56,53,52,55,55,53,56,48,55]⟩:ByteArray) t315 _ A18.out).mono ?_);rintro e w' ⟨rfl,⟨nd,rfl⟩⟩))
          go_meet
          case rel=>exact ⟨_,(!t315),(by first | rfl | (simp;done) | (simp [*];done)),H',⟨by have:=HJ1.out;have:=HJ5.out;have:=HJ8.out;first | omega | exact Nat.le_refl _⟩,zQ⟩
        case rest=>
         clear HC14
         obtain ⟨kq,x43_13,rfl,HA,HJ13,⟨mc13,rfl⟩⟩:=hcut
         cases kq with
         | zero=>exact absurd HA.out (by simp [r01_Parse.j3])
         | succ kj13=>
          have H:=HA.out
          clear HA
          simp only [r01_Parse.j3] at H
          by_cases c19:x43_13=true
          ·subst c19
           have H1:(some (0,18))=some (r1,r2):=by rw [if_pos rfl] at H;exact H
           clear H
           have H:=H1
           clear H1
           simp only [Option.some.injEq,Prod.mk.injEq] at H
           obtain ⟨rfl,rfl⟩:=H
           go_wp2
           go_ret2
           exact ⟨by first | rfl | (simp;done) | (simp [*];done),zQ⟩
          ·replace c19:=Bool.eq_false_iff.mpr c19
           subst c19
           have H1:(r01_Parse.l0 kj13 x4_5 x5_5 0 0)=some (r1,r2):=by rw [if_neg (show ¬ (false=true) by decide)] at H;exact H
           clear H
           have H:=H1
           clear H1
           have H':=aM H
           clear H
           go_wp2
           go_loopg [6,7] kj13 (fun kq v6 v7 w'=>∃ (x6_5:Int) (x7_5:Int),v6=.int .i64 x6_5∧v7=.int .i64 x7_5∧Aside0 (r01_Parse.l0 kq x4_5 x5_5 x6_5 x7_5=some (r1,r2))∧Aside0 (kq≤kj13)∧Drawn0 w w')
           case atStart=>exact ⟨(0),(0),(by first | rfl | (simp;done) | (simp [*];done)),(by first | rfl | (simp;done) | (simp [*];done)),H',⟨Nat.le_refl _⟩,zQ⟩
           case round=>
            clear H'
            obtain ⟨x6_5,x7_5,rfl,rfl,HA,HK5,⟨m5,rfl⟩⟩:=hrel
            cases gk with
            | zero=>exact absurd HA.out (by simp [r01_Parse.l0])
            | succ k5=>
             have H:=HA.out
             clear HA
             simp only [r01_Parse.l0] at H
             by_cases c20:x7_5<(x4_5.size:Int)
             ·rw [if_pos c20] at H
              have c20b0:decide (x7_5<(x4_5.size:Int))=true:=decide_eq_true c20
              clear c20
              by_cases c21:0≤x7_5
              ·rw [if_pos c21] at H
               have c21b0:decide (0≤x7_5)=true:=decide_eq_true c21
               clear c21
               by_cases c23:x5_5=true
               ·subst c23
                have H1:(r01_Parse.l0 k5 x4_5 true (wrap64 ((wrap64 (x6_5 * 10)) - (wrap64 ((wrap64 (bt x4_5 x7_5)) - 48)))) (wrap64 (x7_5+1)))=some (r1,r2):=by rw [if_pos rfl] at H;exact H
                clear H
                have H:=H1
                clear H1
                have H':=aM H
                clear H
                have p22:0≤(x7_5:Int):=of_decide_eq_true zS
                have q22:x7_5<(x4_5.size:Int):=of_decide_eq_true zS
                have hx22:=bt_at x4_5 x7_5
                replace p22:=eq_true p22
                replace q22:=eq_true q22
                go_wp2
                go_roundg k5
                case measure=>have:=HJ1.out;have:=HJ5.out;have:=HJ8.out;have:=HJ13.out;have:=HK5.out;omega
                case rel=>exact ⟨(wrap64 ((wrap64 (x6_5 * 10)) - (wrap64 ((wrap64 (bt x4_5 x7_5)) - 48)))),(wrap64 (x7_5+1)),(by first | rfl | (simp;done) | (simp [*];done)),(by first | rfl | (simp;done) | (simp [*];done)),H',⟨by have:=HJ1.out;have:=HJ5.out;have:=HJ8.out;have:=HJ13.out;have:=HK5.out;omega⟩,zQ⟩
               ·replace c23:=Bool.eq_false_iff.mpr c23
                subst c23
                have H1:(r01_Parse.l0 k5 x4_5 false (wrap64 ((wrap64 (x6_5 * 10))+(wrap64 ((wrap64 (bt x4_5 x7_5)) - 48)))) (wrap64 (x7_5+1)))=some (r1,r2):=by rw [if_neg (show ¬ (false=true) by decide)] at H;exact H
                clear H
                have H:=H1
                clear H1
                have H':=aM H
                clear H
                have p22:0≤(x7_5:Int):=of_decide_eq_true zS
                have q22:x7_5<(x4_5.size:Int):=of_decide_eq_true zS
                have hx22:=bt_at x4_5 x7_5
                replace p22:=eq_true p22
                replace q22:=eq_true q22
                go_wp2
                go_roundg k5
                case measure=>have:=HJ1.out;have:=HJ5.out;have:=HJ8.out;have:=HJ13.out;have:=HK5.out;omega
                case rel=>exact ⟨(wrap64 ((wrap64 (x6_5 * 10))+(wrap64 ((wrap64 (bt x4_5 x7_5)) - 48)))),(wrap64 (x7_5+1)),(by first | rfl | (simp;done) | (simp [*];done)),(by first | rfl | (simp;done) | (simp [*];done)),H',⟨by have:=HJ1.out;have:=HJ5.out;have:=HJ8.out;have:=HJ13.out;have:=HK5.out;omega⟩,zQ⟩
              ·rw [if_neg c21] at H
               exact absurd H (by simp)
             ·rw [if_neg c20] at H
              have c20b0:decide (x7_5<(x4_5.size:Int))=false:=decide_eq_false c20
              clear c20
              simp only [Option.some.injEq,Prod.mk.injEq] at H
              obtain ⟨rfl,rfl⟩:=H
              go_wp2
              go_ret2
              exact ⟨by first | rfl | (simp;done) | (simp [*];done),zQ⟩
def r01_Index.f (k:Nat) (a0:ByteArray) (a1:Int):Option (Int × Int):=(r01_Parse.f k a0).bind fun bt316=>(if bt316.2=0 then (if bt316.1<0 then (some (0,18)) else (if bt316.1>a1 then (some (0,18)) else (some (bt316.1,0)))) else (some (0,bt316.2)))
theorem r01_Index.calls (k:Nat) (a0:ByteArray) (a1:Int) (r1:Int) (r2:Int) (w:World) (h:r01_Index.f k a0 a1=some (r1,r2)):
  Calls Try.prog 118 #[.string a0,.int .i64 a1] w fun e w'=>e=.returned (.tuple #[.int .i64 r1,.int .i64 r2])∧Drawn0 w w':=by
 have H:((r01_Parse.f k a0).bind fun bt316=>(if bt316.2=0 then (if bt316.1<0 then (some (0,18)) else (if bt316.1>a1 then (some (0,18)) else (some (bt316.1,0)))) else (some (0,bt316.2))))=some (r1,r2):=h
 clear h
 replace H:=Option.bind_eq_some_iff.mp H
 obtain ⟨⟨t316,t317⟩,A30,H⟩:=H
 have A3:=aM A30
 clear A30
 by_cases c4:t317=0
 ·rw [if_pos c4] at H
  have c4b1:(t317 !=0)=false:=bne_eq_false_iff_eq.mpr c4
  clear c4
  by_cases c5:t316<0
  ·rw [if_pos c5] at H
   have c5b0:decide (t316<0)=true:=decide_eq_true c5
   clear c5
   simp only [Option.some.injEq,Prod.mk.injEq] at H
   obtain ⟨rfl,rfl⟩:=H
   go_enter Try.func118,Try.ntmps118
   go_wp2_with (first | ((with_reducible refine gate_callee (f:=119) rfl ?_);refine goesL_ (some 10) rfl rfl Try.func119 (by kernel_rfl) rfl #[.string a0] rfl zA ?_;(with_reducible refine (r01_Parse.calls k a0 t316 t317 _ A3.out).mono ?_);rintro e w' ⟨rfl,⟨nd,rfl⟩⟩;refine ⟨_,rfl,?_⟩))
   go_ret2
   exact ⟨by first | rfl | (simp;done) | (simp [*];done),zQ⟩
  ·rw [if_neg c5] at H
   have c5b0:decide (t316<0)=false:=decide_eq_false c5
   clear c5
   by_cases c6:t316>a1
   ·rw [if_pos c6] at H
    have c6b0:decide (a1<t316)=true:=decide_eq_true c6
    clear c6
    simp only [Option.some.injEq,Prod.mk.injEq] at H
    obtain ⟨rfl,rfl⟩:=H
    go_enter Try.func118,Try.ntmps118
    go_wp2_with (first | ((with_reducible refine gate_callee (f:=119) rfl ?_);refine goesL_ (some 10) rfl rfl Try.func119 (by kernel_rfl) rfl #[.string a0] rfl zA ?_;(with_reducible refine (r01_Parse.calls k a0 t316 t317 _ A3.out).mono ?_);rintro e w' ⟨rfl,⟨nd,rfl⟩⟩;refine ⟨_,rfl,?_⟩))
    go_ret2
    exact ⟨by first | rfl | (simp;done) | (simp [*];done),zQ⟩
   ·rw [if_neg c6] at H
    have c6b0:decide (a1<t316)=false:=decide_eq_false c6
    clear c6
    simp only [Option.some.injEq,Prod.mk.injEq] at H
    obtain ⟨rfl,rfl⟩:=H
    go_enter Try.func118,Try.ntmps118
    go_wp2_with (first | ((with_reducible refine gate_callee (f:=119) rfl ?_);refine goesL_ (some 10) rfl rfl Try.func119 (by kernel_rfl) rfl #[.string a0] rfl zA ?_;(with_reducible refine (r01_Parse.calls k a0 t316 t317 _ A3.out).mono ?_);rintro e w' ⟨rfl,⟨nd,rfl⟩⟩;refine ⟨_,rfl,?_⟩))
    go_ret2
    exact ⟨by first | rfl | (simp;done) | (simp [*];done),zQ⟩
 ·rw [if_neg c4] at H
  have c4b1:(t317 !=0)=true:=bne_iff_ne.mpr c4
  simp only [Option.some.injEq,Prod.mk.injEq] at H
  obtain ⟨rfl,rfl⟩:=H
  go_enter Try.func118,Try.ntmps118
  go_wp2_with (first | ((with_reducible refine gate_callee (f:=119) rfl ?_);refine goesL_ (some 10) rfl rfl Try.func119 (by kernel_rfl) rfl #[.string a0] rfl zA ?_;(with_reducible refine (r01_Parse.calls k a0 t316 t317 _ A3.out).mono ?_);rintro e w' ⟨rfl,⟨nd,rfl⟩⟩;refine ⟨_,rfl,?_⟩))
  go_ret2
  exact ⟨by first | rfl | (simp;done) | (simp [*];done),zQ⟩
def r06_Reader_index.j0:Nat→Int→Int→ByteArray→Bool→List (S101)→Int→Int→Int→Int→Int→Option (Int × Int × Int × Int × Int × Int)
 | 0,_,_,_,_,_,_,_,_,_,_=>none
 | k+1,x2,x3,x9,x22,x1000,x1001,x1002,x1003,x1004,x1005=>if x22=true then ((r06_Reader_fail.f x1000 x1001 x1002 x1003 x1004 x1005 x3).bind fun bt324=>(some (0,bt324.1,bt324.2.1,bt324.2.2.1,bt324.2.2.2.1,bt324.2.2.2.2))) else (if 1≤(x9.size:Int) then ((r01_Index.f k (x9.extract 1 x9.size) x2).bind fun bt329=>(if bt329.2=0 then (some (bt329.1,wrap64 (x1001+1),x1002,x1003,x1004,x1005)) else ((r06_Reader_fail.f x1000 x1001 x1002 x1003 x1004 x1005 x3).bind fun bt331=>(some (0,bt331.1,bt331.2.1,bt331.2.2.1,bt331.2.2.2.1,bt331.2.2.2.2))))) else (none))
def r06_Reader_index.f (k:Nat) (s0_0:List (S101)) (s0_1:Int) (s0_2:Int) (s0_3:Int) (s0_4:Int) (s0_5:Int) (a1:Int) (a2:Int) (a3:Int):Option (Int × Int × Int × Int × Int × Int):=(r06_Reader_peek.f s0_0 s0_1 s0_2 s0_3 s0_4 s0_5 0).bind fun bt318=>(if (bt318.1.size:Int)<2 then (r06_Reader_index.j0 k a2 a3 bt318.1 true s0_0 bt318.2.1 bt318.2.2.1 bt318.2.2.2.1 bt318.2.2.2.2.1 bt318.2.2.2.2.2) else (if 0<(bt318.1.size:Int) then (r06_Reader_index.j0 k a2 a3 bt318.1 ((bt bt318.1 0) !=a1) s0_0 bt318.2.1 bt318.2.2.1 bt318.2.2.2.1 bt318.2.2.2.2.1 bt318.2.2.2.2.2) else (none)))
theorem r06_Reader_index.calls (k:Nat) (g:Nat) (s0_0:List (S101)) (s0_1:Int) (s0_2:Int) (s0_3:Int) (s0_4:Int) (s0_5:Int) (a1:Int) (a2:Int) (a3:Int) (r1:Int) (r2:Int) (r3:Int) (r4:Int) (r5:Int) (r6:Int) (w0 w:World) (hI:IsS89 w0 w g s0_0 s0_1 s0_2 s0_3 s0_4 s0_5) (hB:Below w0.heap.size w0 w) (h:r06_Reader_index.f k s0_0 s0_1 s0_2 s0_3 s0_4 s0_5 a1 a2 a3=some (r1,r2,r3,r4,r5,r6)):
  Calls Try.prog 109 #[.pointer (some ⟨g,0,none⟩),.int .u8 a1,.int .i64 a2,.int .i64 a3] w fun e w'=>e=.returned (.int .i64 r1)∧IsS89 w0 w' g s0_0 r2 r3 r4 r5 r6∧Below w0.heap.size w0 w'∧KeepBut w w' g none:=by
 have HI0:=aM hI
 have HK:=aM (KeepBut.refl w g none)
 clear hI
 have HB:=aM hB
 clear hB
 have H:((r06_Reader_peek.f s0_0 s0_1 s0_2 s0_3 s0_4 s0_5 0).bind fun bt318=>(if (bt318.1.size:Int)<2 then (r06_Reader_index.j0 k a2 a3 bt318.1 true s0_0 bt318.2.1 bt318.2.2.1 bt318.2.2.2.1 bt318.2.2.2.2.1 bt318.2.2.2.2.2) else (if 0<(bt318.1.size:Int) then (r06_Reader_index.j0 k a2 a3 bt318.1 ((bt bt318.1 0) !=a1) s0_0 bt318.2.1 bt318.2.2.1 bt318.2.2.2.1 bt318.2.2.2.2.1 bt318.2.2.2.2.2) else (none))))=some (r1,r2,r3,r4,r5,r6):=h
 clear h
 replace H:=Option.bind_eq_some_iff.mp H
 obtain ⟨⟨t318,t319,t320,t321,t322,t323⟩,A50,H⟩:=H
 have A5:=aM A50
 clear A50
 have HC6:=aM H
 clear H
 go_enter Try.func109,Try.ntmps109
 go_upto_region 2 with (first | ((with_reducible refine gate_callee (f:=86) rfl ?_);refine goesL_ (some 13) rfl rfl Try.func86 (by kernel_rfl) rfl #[.pointer (some ⟨g,0,none⟩),.int .i64 0] rfl zA ?_;(with_reducible refine (r06_Reader_peek.calls g s0_0 s0_1 s0_2 s0_3 s0_4 s0_5 0 t318 t319 t320 t321 t322 t323 w0 _ ?side1 ?side2 A5.out).mono ?_);(case side1=>repeat (first | (with_reducible first | exact HI0.out | apply IsS89.alloc | apply IsS89.drewN | apply IsS89.drew | apply IsS89.set_1 | apply IsS89.set_2 | apply IsS89.set_3 | apply IsS89.set_4 | apply IsS89.set_5) | exact HI0.out));(case side2=>repeat (first | (with_reducible first | exact HB.out | apply below_alloc | apply pw_below_drewN | apply below_drew1 | refine below_set ?_ (IsS89.ge HI0.out)) | exact HB.out));rintro e w7 ⟨rfl,hi,hb,hk⟩;refine ⟨_,rfl,?_⟩;have n0_:=aM (KeepBut.trans (by repeat (first | (with_reducible first | exact HK.out | apply KeepBut.set_ | apply keep_drewN | apply keep_drew | apply keep_alloc) | exact HK.out)) hk (.inl rfl));have n1_:=aM (hb);have n2_:=aM (hi);clear HK;clear HB;clear HI0;have HK:=n0_;have HB:=n1_;have HI0:=n2_;clear n0_ n1_ n2_;(try clear hb);(try clear hb2);(try clear hk);(try clear hi)))
 (try simp only [Act.put,qA,qB,qC])
 go_cut [22] (fun v22 wc=>∃ (kq:Nat) (x22_5:Bool),v22=.bool x22_5∧Aside0 (r06_Reader_index.j0 kq a2 a3 t318 x22_5 s0_0 t319 t320 t321 t322 t323=some (r1,r2,r3,r4,r5,r6))∧Aside0 (kq≤k)∧Aside0 (IsS89 w0 wc g s0_0 t319 t320 t321 t322 t323)∧Aside0 (KeepBut w wc g none)∧Aside0 (Below w0.heap.size w0 wc))
 case first=>
  have H:=HC6.out
  clear HC6
  by_cases c8:(t318.size:Int)<2
  ·rw [if_pos c8] at H
   have c8b0:decide ((t318.size:Int)<2)=true:=decide_eq_true c8
   clear c8
   (first | rw [c8b0] | (simp only [i64_w,i32_w];rw [c8b0]) | skip)
   have H':=aM H
   clear H
   go_wp2
   go_meet
   case rel=>exact ⟨_,(true),(by first | rfl | (simp;done) | (simp [*];done)),H',⟨by first | omega | exact Nat.le_refl _⟩,⟨by repeat (first | (with_reducible first | exact HI0.out | apply IsS89.alloc | apply IsS89.drewN | apply IsS89.drew | apply IsS89.set_1 | apply IsS89.set_2 | apply IsS89.set_3 | apply IsS89.set_4 | apply IsS89.set_5) | exact HI0.out)⟩,⟨by repeat (first | (with_reducible first | exact HK.out | apply KeepBut.set_ | apply keep_drewN | apply keep_drew | apply keep_alloc) | exact HK.out)⟩,⟨zC HB.out (IsS89.ge HI0.out)⟩⟩
  ·rw [if_neg c8] at H
   have c8b0:decide ((t318.size:Int)<2)=false:=decide_eq_false c8
   clear c8
   (first | rw [c8b0] | (simp only [i64_w,i32_w];rw [c8b0]) | skip)
   by_cases c9:0<(t318.size:Int)
   ·rw [if_pos c9] at H
    have c9b0:decide (0<(t318.size:Int))=true:=decide_eq_true c9
    clear c9
    have H':=aM H
    clear H
    have q10:0<t318.size:=(by have:(0:Int)<(t318.size:Int):=of_decide_eq_true zS;omega)
    have hx10:∀ h:0<t318.size,((t318[0]'h).toNat:Int)=bt t318 0:=bt_at t318 0
    replace q10:=eq_true q10
    go_wp2
    go_meet
    case rel=>exact ⟨_,(((bt t318 0) !=a1)),(by first | rfl | (simp;done) | (simp [*];done)),H',⟨by first | omega | exact Nat.le_refl _⟩,⟨by repeat (first | (with_reducible first | exact HI0.out | apply IsS89.alloc | apply IsS89.drewN | apply IsS89.drew | apply IsS89.set_1 | apply IsS89.set_2 | apply IsS89.set_3 | apply IsS89.set_4 | apply IsS89.set_5) | exact HI0.out)⟩,⟨by repeat (first | (with_reducible first | exact HK.out | apply KeepBut.set_ | apply keep_drewN | apply keep_drew | apply keep_alloc) | exact HK.out)⟩,⟨zC HB.out (IsS89.ge HI0.out)⟩⟩
   ·rw [if_neg c9] at H
    exact absurd H (by simp)
 case rest=>
  clear HC6
  obtain ⟨kq,x22_5,rfl,HA,HJ5,HI0,HK,HB⟩:=hcut
  cases kq with
  | zero=>exact absurd HA.out (by simp [r06_Reader_index.j0])
  | succ kj5=>
   have H:=HA.out
   clear HA
   simp only [r06_Reader_index.j0] at H
   by_cases c11:x22_5=true
   ·subst c11
    have H1:((r06_Reader_fail.f s0_0 t319 t320 t321 t322 t323 a3).bind fun bt324=>(some (0,bt324.1,bt324.2.1,bt324.2.2.1,bt324.2.2.2.1,bt324.2.2.2.2)))=some (r1,r2,r3,r4,r5,r6):=by rw [if_pos rfl] at H;exact H
    clear H
    have H:=H1
    clear H1
    replace H:=Option.bind_eq_some_iff.mp H
    obtain ⟨⟨t324,t325,t326,t327,t328⟩,A120,H⟩:=H
    have A12:=aM A120
    clear A120
    simp only [Option.some.injEq,Prod.mk.injEq] at H
    obtain ⟨rfl,rfl,rfl,rfl,rfl,rfl⟩:=H
    go_wp2_with (first | ((with_reducible refine gate_callee (f:=61) rfl ?_);refine goesL_ (some 25) rfl rfl Try.func61 (by kernel_rfl) rfl #[.pointer (some ⟨g,0,none⟩),.int .i64 a3] rfl zA ?_;(with_reducible refine (r06_Reader_fail.calls g s0_0 t319 t320 t321 t322 t323 a3 t324 t325 t326 t327 t328 w0 _ ?side1 ?side2 A12.out).mono ?_);(case side1=>repeat (first | (with_reducible first | exact HI0.out | apply IsS89.alloc | apply IsS89.drewN | apply IsS89.drew | apply IsS89.set_1 | apply IsS89.set_2 | apply IsS89.set_3 | apply IsS89.set_4 | apply IsS89.set_5) | exact HI0.out));(case side2=>repeat (first | (with_reducible first | exact HB.out | apply below_alloc | apply pw_below_drewN | apply below_drew1 | refine below_set ?_ (IsS89.ge HI0.out)) | exact HB.out));rintro e w13 ⟨rfl,hi,hb,hk⟩;refine ⟨_,rfl,?_⟩;have n0_:=aM (KeepBut.trans (by repeat (first | (with_reducible first | exact HK.out | apply KeepBut.set_ | apply keep_drewN | apply keep_drew | apply keep_alloc) | exact HK.out)) hk (.inl rfl));have n1_:=aM (hb);have n2_:=aM (hi);clear HK;clear HB;clear HI0;have HK:=n0_;have HB:=n1_;have HI0:=n2_;clear n0_ n1_ n2_;(try clear hb);(try clear hb2);(try clear hk);(try clear hi)))
    go_ret
    exact ⟨zF,by repeat (first | (with_reducible first | exact HI0.out | apply IsS89.alloc | apply IsS89.drewN | apply IsS89.drew | apply IsS89.set_1 | apply IsS89.set_2 | apply IsS89.set_3 | apply IsS89.set_4 | apply IsS89.set_5) | exact HI0.out),zC HB.out (IsS89.ge HI0.out),by repeat (first | (with_reducible first | exact HK.out | apply KeepBut.set_ | apply keep_drewN | apply keep_drew | apply keep_alloc) | exact HK.out)⟩
   ·replace c11:=Bool.eq_false_iff.mpr c11
    subst c11
    have H1:(if 1≤(t318.size:Int) then ((r01_Index.f kj5 (t318.extract 1 t318.size) a2).bind fun bt329=>(if bt329.2=0 then (some (bt329.1,wrap64 (t319+1),t320,t321,t322,t323)) else ((r06_Reader_fail.f s0_0 t319 t320 t321 t322 t323 a3).bind fun bt331=>(some (0,bt331.1,bt331.2.1,bt331.2.2.1,bt331.2.2.2.1,bt331.2.2.2.2))))) else (none))=some (r1,r2,r3,r4,r5,r6):=by rw [if_neg (show ¬ (false=true) by decide)] at H;exact H
    clear H
    have H:=H1
    clear H1
    by_cases c14:1≤(t318.size:Int)
    ·rw [if_pos c14] at H
     have c14b0:=eq_true c14
     clear c14
     replace H:=Option.bind_eq_some_iff.mp H
     obtain ⟨⟨t329,t330⟩,A150,H⟩:=H
     have A15:=aM A150
     clear A150
     by_cases c16:t330=0
     ·rw [if_pos c16] at H
      have c16b1:(t330 !=0)=false:=bne_eq_false_iff_eq.mpr c16
      clear c16
      simp only [Option.some.injEq,Prod.mk.injEq] at H
      obtain ⟨rfl,rfl,rfl,rfl,rfl,rfl⟩:=H
      go_wp2_with (first | ((with_reducible refine gate_callee (f:=118) rfl ?_);refine goesL_ (some 30) rfl rfl Try.func118 (by kernel_rfl) rfl #[.string (t318.extract 1 t318.size),.int .i64 a2] rfl zA ?_;(with_reducible refine (r01_Index.calls kj5 (t318.extract 1 t318.size) a2 t329 t330 _ A15.out).mono ?_);rintro e w' ⟨rfl,⟨nd,rfl⟩⟩;refine ⟨_,rfl,?_⟩;(try (rw [drewN_self wc];generalize hq_:World.drewN wc _=wc;have n0_:Aside0 (IsS89 w0 wc g s0_0 t319 t320 t321 t322 t323):=⟨by rw [← hq_];exact (by repeat (first | (with_reducible first | exact HI0.out | apply IsS89.alloc | apply IsS89.drewN | apply IsS89.drew | apply IsS89.set_1 | apply IsS89.set_2 | apply IsS89.set_3 | apply IsS89.set_4 | apply IsS89.set_5) | exact HI0.out))⟩;have n1_:Aside0 (KeepBut w wc g none):=⟨by rw [← hq_];exact (by repeat (first | (with_reducible first | exact HK.out | apply KeepBut.set_ | apply keep_drewN | apply keep_drew | apply keep_alloc) | exact HK.out))⟩;have n2_:Aside0 (Below w0.heap.size w0 wc):=⟨by rw [← hq_];exact (zC HB.out (IsS89.ge HI0.out))⟩;clear HI0 HK HB hq_;have HI0:=n0_;have HK:=n1_;have HB:=n2_;clear n0_ n1_ n2_));obtain ⟨ASz17_0,cSz17_0,HGz17,hgz17,HSz17_0⟩:=HI0.out;have hcz17_1:=cellS89_1 HGz17;have hfz17_1:=blk_frozen HGz17 1;clear HGz17 hgz17))
      go_ret
      exact ⟨zF,by repeat (first | (with_reducible first | exact HI0.out | apply IsS89.alloc | apply IsS89.drewN | apply IsS89.drew | apply IsS89.set_1 | apply IsS89.set_2 | apply IsS89.set_3 | apply IsS89.set_4 | apply IsS89.set_5) | exact HI0.out),zC HB.out (IsS89.ge HI0.out),by repeat (first | (with_reducible first | exact HK.out | apply KeepBut.set_ | apply keep_drewN | apply keep_drew | apply keep_alloc) | exact HK.out)⟩
     ·rw [if_neg c16] at H
      have c16b1:(t330 !=0)=true:=bne_iff_ne.mpr c16
      replace H:=Option.bind_eq_some_iff.mp H
      obtain ⟨⟨t331,t332,t333,t334,t335⟩,A180,H⟩:=H
      have A18:=aM A180
      clear A180
      simp only [Option.some.injEq,Prod.mk.injEq] at H
      obtain ⟨rfl,rfl,rfl,rfl,rfl,rfl⟩:=H
      go_wp2_with (first | ((with_reducible refine gate_callee (f:=118) rfl ?_);refine goesL_ (some 30) rfl rfl Try.func118 (by kernel_rfl) rfl #[.string (t318.extract 1 t318.size),.int .i64 a2] rfl zA ?_;(with_reducible refine (r01_Index.calls kj5 (t318.extract 1 t318.size) a2 t329 t330 _ A15.out).mono ?_);rintro e w' ⟨rfl,⟨nd,rfl⟩⟩;refine ⟨_,rfl,?_⟩) | ((with_reducible refine gate_callee (f:=61) rfl ?_);refine goesL_ (some 37) rfl rfl Try.func61 (by kernel_rfl) rfl #[.pointer (some ⟨g,0,none⟩),.int .i64 a3] rfl zA ?_;(with_reducible refine (r06_Reader_fail.calls g s0_0 t319 t320 t321 t322 t323 a3 t331 t332 t333 t334 t335 w0 _ ?side1 ?side2 A18.out).mono ?_);(case side1=>repeat (first | (with_reducible first | exact HI0.out | apply IsS89.alloc | apply IsS89.drewN | apply IsS89.drew | apply IsS89.set_1 | apply IsS89.set_2 | apply IsS89.set_3 | apply IsS89.set_4 | apply IsS89.set_5) | exact HI0.out));(case side2=>repeat (first | (with_reducible first | exact HB.out | apply below_alloc | apply pw_below_drewN | apply below_drew1 | refine below_set ?_ (IsS89.ge HI0.out)) | exact HB.out));rintro e w19 ⟨rfl,hi,hb,hk⟩;refine ⟨_,rfl,?_⟩;have n0_:=aM (KeepBut.trans (by repeat (first | (with_reducible first | exact HK.out | apply KeepBut.set_ | apply keep_drewN | apply keep_drew | apply keep_alloc) | exact HK.out)) hk (.inl rfl));have n1_:=aM (hb);have n2_:=aM (hi);clear HK;clear HB;clear HI0;have HK:=n0_;have HB:=n1_;have HI0:=n2_;clear n0_ n1_ n2_;(try clear hb);(try clear hb2);(try clear hk);(try clear hi)))
      go_ret
      exact ⟨zF,by repeat (first | (with_reducible first | exact HI0.out | apply IsS89.alloc | apply IsS89.drewN | apply IsS89.drew | apply IsS89.set_1 | apply IsS89.set_2 | apply IsS89.set_3 | apply IsS89.set_4 | apply IsS89.set_5) | exact HI0.out),zC HB.out (IsS89.ge HI0.out),by repeat (first | (with_reducible first | exact HK.out | apply KeepBut.set_ | apply keep_drewN | apply keep_drew | apply keep_alloc) | exact HK.out)⟩
    ·rw [if_neg c14] at H
     exact absurd H (by simp)
def r06_Reader_value.f (k:Nat) (s0_0:List (S101)) (s0_1:Int) (s0_2:Int) (s0_3:Int) (s0_4:Int) (s0_5:Int):Option (Int × Int × Int × Int × Int × Int):=(r06_Reader_index.f k s0_0 s0_1 s0_2 s0_3 s0_4 s0_5 37 1048576 8).bind fun bt336=>(some (bt336.1,bt336.2.1,bt336.2.2.1,bt336.2.2.2.1,bt336.2.2.2.2.1,bt336.2.2.2.2.2))
theorem r06_Reader_value.calls (k:Nat) (g:Nat) (s0_0:List (S101)) (s0_1:Int) (s0_2:Int) (s0_3:Int) (s0_4:Int) (s0_5:Int) (r1:Int) (r2:Int) (r3:Int) (r4:Int) (r5:Int) (r6:Int) (w0 w:World) (hI:IsS89 w0 w g s0_0 s0_1 s0_2 s0_3 s0_4 s0_5) (hB:Below w0.heap.size w0 w) (h:r06_Reader_value.f k s0_0 s0_1 s0_2 s0_3 s0_4 s0_5=some (r1,r2,r3,r4,r5,r6)):
  Calls Try.prog 101 #[.pointer (some ⟨g,0,none⟩)] w fun e w'=>e=.returned (.int .i64 r1)∧IsS89 w0 w' g s0_0 r2 r3 r4 r5 r6∧Below w0.heap.size w0 w'∧KeepBut w w' g none:=by
 have HI0:=aM hI
 have HK:=aM (KeepBut.refl w g none)
 clear hI
 have HB:=aM hB
 clear hB
 have H:((r06_Reader_index.f k s0_0 s0_1 s0_2 s0_3 s0_4 s0_5 37 1048576 8).bind fun bt336=>(some (bt336.1,bt336.2.1,bt336.2.2.1,bt336.2.2.2.1,bt336.2.2.2.2.1,bt336.2.2.2.2.2)))=some (r1,r2,r3,r4,r5,r6):=h
 clear h
 replace H:=Option.bind_eq_some_iff.mp H
 obtain ⟨⟨t336,t337,t338,t339,t340,t341⟩,A20,H⟩:=H
 have A2:=aM A20
 clear A20
 simp only [Option.some.injEq,Prod.mk.injEq] at H
 obtain ⟨rfl,rfl,rfl,rfl,rfl,rfl⟩:=H
 go_enter Try.func101,Try.ntmps101
 go_wp2_with (first | ((with_reducible refine gate_callee (f:=109) rfl ?_);refine goesL_ (some 4) rfl rfl Try.func109 (by kernel_rfl) rfl #[.pointer (some ⟨g,0,none⟩),.int .u8 37,.int .i64 1048576,.int .i64 8] rfl zA ?_;(with_reducible refine (r06_Reader_index.calls k g s0_0 s0_1 s0_2 s0_3 s0_4 s0_5 37 1048576 8 t336 t337 t338 t339 t340 t341 w0 _ ?side1 ?side2 A2.out).mono ?_);(case side1=>repeat (first | (with_reducible first | exact HI0.out | apply IsS89.alloc | apply IsS89.drewN | apply IsS89.drew | apply IsS89.set_1 | apply IsS89.set_2 | apply IsS89.set_3 | apply IsS89.set_4 | apply IsS89.set_5) | exact HI0.out));(case side2=>repeat (first | (with_reducible first | exact HB.out | apply below_alloc | apply pw_below_drewN | apply below_drew1 | refine below_set ?_ (IsS89.ge HI0.out)) | exact HB.out));rintro e w3 ⟨rfl,hi,hb,hk⟩;refine ⟨_,rfl,?_⟩;have n0_:=aM (KeepBut.trans (by repeat (first | (with_reducible first | exact HK.out | apply KeepBut.set_ | apply keep_drewN | apply keep_drew | apply keep_alloc) | exact HK.out)) hk (.inl rfl));have n1_:=aM (hb);have n2_:=aM (hi);clear HK;clear HB;clear HI0;have HK:=n0_;have HB:=n1_;have HI0:=n2_;clear n0_ n1_ n2_;(try clear hb);(try clear hb2);(try clear hk);(try clear hi)))
 go_ret
 exact ⟨zF,by repeat (first | (with_reducible first | exact HI0.out | apply IsS89.alloc | apply IsS89.drewN | apply IsS89.drew | apply IsS89.set_1 | apply IsS89.set_2 | apply IsS89.set_3 | apply IsS89.set_4 | apply IsS89.set_5) | exact HI0.out),zC HB.out (IsS89.ge HI0.out),by repeat (first | (with_reducible first | exact HK.out | apply KeepBut.set_ | apply keep_drewN | apply keep_drew | apply keep_alloc) | exact HK.out)⟩
end Go.Proofs.Ytkjdblbgmomieaa.PSh
end
