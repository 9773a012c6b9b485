import Derived.Test.YtkjdblbgmomieaaMr2
import Derived.Test.YtkjdblbgmomieaaMr3
import Derived.Test.YtkjdblbgmomieaaMr7
import Derived.Lib.OthersKept
import Derived.Outline
import Derived.Test.YtkjdblbgmomieaaMr6
import Derived.Test.YtkjdblbgmomieaaMr1
import Derived.Lib.ConvBytes
-- from YtkjdblbgmomieaaPShx26
section
namespace Go.Proofs.Ytkjdblbgmomieaa.PSh
set_option maxHeartbeats 8000000
set_option maxRecDepth 100000
open Go.RowKit Go.Proofs.YtkjdblbgmomieaaW.PrintWords Go.Proofs.YtkjdblbgmomieaaW.PrintLast Go.Proofs.YtkjdblbgmomieaaW.PrintMore Go.Proofs.Ytkjdblbgmomieaa.Zip
attribute [local go_sem] max2_int min2_int max_two min_two max_three min_three max_four min_four   -- for this text's walks alone
set_option linter.unusedVariables false
set_option linter.unusedSimpArgs false
mutual
def token_kind.j0:Nat→Int→Bool→Option (Int)
 | 0,_,_=>none
 | k+1,x0,x3=>if x3=true then (some 0) else (if x0=40 then (token_kind.j1 k x0 true) else (if x0=41 then (token_kind.j1 k x0 true) else (if x0=123 then (token_kind.j1 k x0 true) else (if x0=125 then (token_kind.j1 k x0 true) else (if x0=61 then (token_kind.j1 k x0 true) else (token_kind.j1 k x0 (x0==58)))))))
def token_kind.j1:Nat→Int→Bool→Option (Int)
 | 0,_,_=>none
 | k+1,x0,x18=>if x18=true then (some 1) else (if x0≥97 then (if x0≤122 then (token_kind.j2 k x0 true) else (if x0≥65 then (if x0≤90 then (token_kind.j2 k x0 true) else (if x0≥48 then (token_kind.j2 k x0 (decide (x0≤57))) else (token_kind.j2 k x0 false))) else (if x0≥48 then (token_kind.j2 k x0 (decide (x0≤57))) else (token_kind.j2 k x0 false)))) else (if x0≥65 then (if x0≤90 then (token_kind.j2 k x0 true) else (if x0≥48 then (token_kind.j2 k x0 (decide (x0≤57))) else (token_kind.j2 k x0 false))) else (if x0≥48 then (token_kind.j2 k x0 (decide (x0≤57))) else (token_kind.j2 k x0 false))))
def token_kind.j2:Nat→Int→Bool→Option (Int)
 | 0,_,_=>none
 | k+1,x0,x41=>if x41=true then (some 2) else (if x0=46 then (token_kind.j3 k x0 true) else (if x0=37 then (token_kind.j3 k x0 true) else (if x0=64 then (token_kind.j3 k x0 true) else (if x0=45 then (token_kind.j3 k x0 true) else (token_kind.j3 k x0 (x0==95))))))
def token_kind.j3:Nat→Int→Bool→Option (Int)
 | 0,_,_=>none
 | k+1,x0,x64=>if x64=true then (some 2) else (if x0=35 then (some 3) else (some 4))
end
def token_kind.f (k:Nat) (a0:Int):Option (Int):=if a0=32 then (token_kind.j0 k a0 true) else (if a0=9 then (token_kind.j0 k a0 true) else (if a0=10 then (token_kind.j0 k a0 true) else (token_kind.j0 k a0 (a0==13))))
theorem token_kind.calls (k:Nat) (a0:Int) (r:Int) (w:World) (h:token_kind.f k a0=some r):
  Calls Try.prog 75 #[.int .i32 a0] w fun e w'=>e=.returned (.int .i64 r)∧Drawn0 w w':=by
 have H:(if a0=32 then (token_kind.j0 k a0 true) else (if a0=9 then (token_kind.j0 k a0 true) else (if a0=10 then (token_kind.j0 k a0 true) else (token_kind.j0 k a0 (a0==13)))))=some r:=h
 clear h
 have HC2:=aM H
 clear H
 go_enter Try.func75,Try.ntmps75
 go_upto_region 1 with (fail)
 go_cut [3] (fun v3 wc=>∃ (kq:Nat) (x3_1:Bool),v3=.bool x3_1∧Aside0 (token_kind.j0 kq a0 x3_1=some r)∧Aside0 (kq≤k)∧Drawn0 w wc)
 case first=>
  have H:=HC2.out
  clear HC2
  by_cases c3:a0=32
  ·rw [if_pos c3] at H
   have c3b0:(a0==32)=true:=beq_iff_eq.mpr c3
   have c3b1:(a0 !=32)=false:=bne_eq_false_iff_eq.mpr c3
   clear c3
   (first | rw [c3b0] | (simp only [i64_w,i32_w];rw [c3b0]) | skip)
   have H':=aM H
   clear H
   go_wp2
   go_meet
   case rel=>exact ⟨_,(true),(by first | rfl | (simp;done) | (simp [*];done)),H',⟨by first | omega | exact Nat.le_refl _⟩,zQ⟩
  ·rw [if_neg c3] at H
   have c3b0:(a0==32)=false:=beq_eq_false_iff_ne.mpr c3
   have c3b1:(a0 !=32)=true:=bne_iff_ne.mpr c3
   (first | rw [c3b0] | (simp only [i64_w,i32_w];rw [c3b0]) | skip)
   by_cases c4:a0=9
   ·rw [if_pos c4] at H
    have c4b0:(a0==9)=true:=beq_iff_eq.mpr c4
    have c4b1:(a0 !=9)=false:=bne_eq_false_iff_eq.mpr c4
    clear c4
    have H':=aM H
    clear H
    go_wp2
    go_meet
    case rel=>exact ⟨_,(true),(by first | rfl | (simp;done) | (simp [*];done)),H',⟨by first | omega | exact Nat.le_refl _⟩,zQ⟩
   ·rw [if_neg c4] at H
    have c4b0:(a0==9)=false:=beq_eq_false_iff_ne.mpr c4
    have c4b1:(a0 !=9)=true:=bne_iff_ne.mpr c4
    by_cases c5:a0=10
    ·rw [if_pos c5] at H
     have c5b0:(a0==10)=true:=beq_iff_eq.mpr c5
     have c5b1:(a0 !=10)=false:=bne_eq_false_iff_eq.mpr c5
     clear c5
     have H':=aM H
     clear H
     go_wp2
     go_meet
     case rel=>exact ⟨_,(true),(by first | rfl | (simp;done) | (simp [*];done)),H',⟨by first | omega | exact Nat.le_refl _⟩,zQ⟩
    ·rw [if_neg c5] at H
     have c5b0:(a0==10)=false:=beq_eq_false_iff_ne.mpr c5
     have c5b1:(a0 !=10)=true:=bne_iff_ne.mpr c5
     have H':=aM H
     clear H
     go_wp2
     go_meet
     case rel=>exact ⟨_,((a0==13)),(by first | rfl | (simp;done) | (simp [*];done)),H',⟨by first | omega | exact Nat.le_refl _⟩,zQ⟩
 case rest=>
  clear HC2
  try clear p2
  try clear c3
  try clear c3b0
  try clear c3b1
  try clear c4
  try clear c4b0
  try clear c4b1
  try clear c5
  try clear c5b0
  try clear c5b1
  obtain ⟨kq,x3_1,rfl,HA,HJ1,⟨mc1,rfl⟩⟩:=hcut
  cases kq with
  | zero=>exact absurd HA.out (by simp [token_kind.j0])
  | succ kj1=>
   have H:=HA.out
   clear HA
   simp only [token_kind.j0] at H
   by_cases c6:x3_1=true
   ·subst c6
    have H1:(some 0)=some r:=by rw [if_pos rfl] at H;exact H
    clear H
    have H:=H1
    clear H1
    obtain rfl:=Option.some.inj H
    go_wp2
    go_ret
    exact ⟨by first | rfl | (simp;done) | (simp [*];done),zQ⟩
   ·replace c6:=Bool.eq_false_iff.mpr c6
    subst c6
    have H1:(if a0=40 then (token_kind.j1 kj1 a0 true) else (if a0=41 then (token_kind.j1 kj1 a0 true) else (if a0=123 then (token_kind.j1 kj1 a0 true) else (if a0=125 then (token_kind.j1 kj1 a0 true) else (if a0=61 then (token_kind.j1 kj1 a0 true) else (token_kind.j1 kj1 a0 (a0==58)))))))=some r:=by rw [if_neg (show ¬ (false=true) by decide)] at H;exact H
    clear H
    have H:=H1
    clear H1
    have HC7:=aM H
    clear H
    go_upto_region 3 with (fail)
    go_cut [18] (fun v18 wc=>∃ (kq:Nat) (x18_6:Bool),v18=.bool x18_6∧Aside0 (token_kind.j1 kq a0 x18_6=some r)∧Aside0 (kq≤kj1)∧Drawn0 w wc)
    case first=>
     have H:=HC7.out
     clear HC7
     by_cases c8:a0=40
     ·rw [if_pos c8] at H
      have c8b0:(a0==40)=true:=beq_iff_eq.mpr c8
      have c8b1:(a0 !=40)=false:=bne_eq_false_iff_eq.mpr c8
      clear c8
      (first | rw [c8b0] | (simp only [i64_w,i32_w];rw [c8b0]) | skip)
      have H':=aM H
      clear H
      go_wp2
      go_meet
      case rel=>exact ⟨_,(true),(by first | rfl | (simp;done) | (simp [*];done)),H',⟨by have:=HJ1.out;first | omega | exact Nat.le_refl _⟩,zQ⟩
     ·rw [if_neg c8] at H
      have c8b0:(a0==40)=false:=beq_eq_false_iff_ne.mpr c8
      have c8b1:(a0 !=40)=true:=bne_iff_ne.mpr c8
      (first | rw [c8b0] | (simp only [i64_w,i32_w];rw [c8b0]) | skip)
      by_cases c9:a0=41
      ·rw [if_pos c9] at H
       have c9b0:(a0==41)=true:=beq_iff_eq.mpr c9
       have c9b1:(a0 !=41)=false:=bne_eq_false_iff_eq.mpr c9
       clear c9
       have H':=aM H
       clear H
       go_wp2
       go_meet
       case rel=>exact ⟨_,(true),(by first | rfl | (simp;done) | (simp [*];done)),H',⟨by have:=HJ1.out;first | omega | exact Nat.le_refl _⟩,zQ⟩
      ·rw [if_neg c9] at H
       have c9b0:(a0==41)=false:=beq_eq_false_iff_ne.mpr c9
       have c9b1:(a0 !=41)=true:=bne_iff_ne.mpr c9
       by_cases c10:a0=123
       ·rw [if_pos c10] at H
        have c10b0:(a0==123)=true:=beq_iff_eq.mpr c10
        have c10b1:(a0 !=123)=false:=bne_eq_false_iff_eq.mpr c10
        clear c10
        have H':=aM H
        clear H
        go_wp2
        go_meet
        case rel=>exact ⟨_,(true),(by first | rfl | (simp;done) | (simp [*];done)),H',⟨by have:=HJ1.out;first | omega | exact Nat.le_refl _⟩,zQ⟩
       ·rw [if_neg c10] at H
        have c10b0:(a0==123)=false:=beq_eq_false_iff_ne.mpr c10
        have c10b1:(a0 !=123)=true:=bne_iff_ne.mpr c10
        by_cases c11:a0=125
        ·rw [if_pos c11] at H
         have c11b0:(a0==125)=true:=beq_iff_eq.mpr c11
         have c11b1:(a0 !=125)=false:=bne_eq_false_iff_eq.mpr c11
         clear c11
         have H':=aM H
         clear H
         go_wp2
         go_meet
         case rel=>exact ⟨_,(true),(by first | rfl | (simp;done) | (simp [*];done)),H',⟨by have:=HJ1.out;first | omega | exact Nat.le_refl _⟩,zQ⟩
        ·rw [if_neg c11] at H
         have c11b0:(a0==125)=false:=beq_eq_false_iff_ne.mpr c11
         have c11b1:(a0 !=125)=true:=bne_iff_ne.mpr c11
         by_cases c12:a0=61
         ·rw [if_pos c12] at H
          have c12b0:(a0==61)=true:=beq_iff_eq.mpr c12
          have c12b1:(a0 !=61)=false:=bne_eq_false_iff_eq.mpr c12
          clear c12
          have H':=aM H
          clear H
          go_wp2
          go_meet
          case rel=>exact ⟨_,(true),(by first | rfl | (simp;done) | (simp [*];done)),H',⟨by have:=HJ1.out;first | omega | exact Nat.le_refl _⟩,zQ⟩
         ·rw [if_neg c12] at H
          have c12b0:(a0==61)=false:=beq_eq_false_iff_ne.mpr c12
          have c12b1:(a0 !=61)=true:=bne_iff_ne.mpr c12
          have H':=aM H
          clear H
          go_wp2
          go_meet
          case rel=>exact ⟨_,((a0==58)),(by first | rfl | (simp;done) | (simp [*];done)),H',⟨by have:=HJ1.out;first | omega | exact Nat.le_refl _⟩,zQ⟩
    case rest=>
     clear HC7
     try clear c1
     try clear p2
     try clear c3
     try clear c3b0
     try clear c3b1
     try clear c4
     try clear c4b0
     try clear c4b1
     try clear c5
     try clear c5b0
     try clear c5b1
     try clear c6
     try clear c7
     try clear c8
     try clear c8b0
     try clear c8b1
     try clear c9
     try clear c9b0
     try clear c9b1
     try clear c10
     try clear c10b0
     try clear c10b1
     try clear c11
     try clear c11b0
     try clear c11b1
     try clear c12
     try clear c12b0
     try clear c12b1
     try clear p2
     obtain ⟨kq,x18_6,rfl,HA,HJ6,⟨mc6,rfl⟩⟩:=hcut
     cases kq with
     | zero=>exact absurd HA.out (by simp [token_kind.j1])
     | succ kj6=>
      have H:=HA.out
      clear HA
      simp only [token_kind.j1] at H
      by_cases c13:x18_6=true
      ·subst c13
       have H1:(some 1)=some r:=by rw [if_pos rfl] at H;exact H
       clear H
       have H:=H1
       clear H1
       obtain rfl:=Option.some.inj H
       go_wp2
       go_ret
       exact ⟨by first | rfl | (simp;done) | (simp [*];done),zQ⟩
      ·replace c13:=Bool.eq_false_iff.mpr c13
       subst c13
       have H1:(if a0≥97 then (if a0≤122 then (token_kind.j2 kj6 a0 true) else (if a0≥65 then (if a0≤90 then (token_kind.j2 kj6 a0 true) else (if a0≥48 then (token_kind.j2 kj6 a0 (decide (a0≤57))) else (token_kind.j2 kj6 a0 false))) else (if a0≥48 then (token_kind.j2 kj6 a0 (decide (a0≤57))) else (token_kind.j2 kj6 a0 false)))) else (if a0≥65 then (if a0≤90 then (token_kind.j2 kj6 a0 true) else (if a0≥48 then (token_kind.j2 kj6 a0 (decide (a0≤57))) else (token_kind.j2 kj6 a0 false))) else (if a0≥48 then (token_kind.j2 kj6 a0 (decide (a0≤57))) else (token_kind.j2 kj6 a0 false))))=some r:=by rw [if_neg (show ¬ (false=true) by decide)] at H;exact H
       clear H
       have H:=H1
       clear H1
       have HC14:=aM H
       clear H
       go_upto_region 5 with (fail)
       go_cut [41] (fun v41 wc=>∃ (kq:Nat) (x41_13:Bool),v41=.bool x41_13∧Aside0 (token_kind.j2 kq a0 x41_13=some r)∧Aside0 (kq≤kj6)∧Drawn0 w wc)
       case first=>
        have H:=HC14.out
        clear HC14
        by_cases c15:a0≥97
        ·rw [if_pos c15] at H
         have c15b0:decide (97≤a0)=true:=decide_eq_true c15
         clear c15
         (first | rw [c15b0] | (simp only [i64_w,i32_w];rw [c15b0]) | skip)
         by_cases c16:a0≤122
         ·rw [if_pos c16] at H
          have c16b0:decide (a0≤122)=true:=decide_eq_true c16
          clear c16
          have H':=aM H
          clear H
          go_wp2
          go_meet
          case rel=>exact ⟨_,(true),(by first | rfl | (simp;done) | (simp [*];done)),H',⟨by have:=HJ1.out;have:=HJ6.out;first | omega | exact Nat.le_refl _⟩,zQ⟩
         ·rw [if_neg c16] at H
          have c16b0:decide (a0≤122)=false:=decide_eq_false c16
          clear c16
          by_cases c17:a0≥65
          ·rw [if_pos c17] at H
           have c17b0:decide (65≤a0)=true:=decide_eq_true c17
           clear c17
           by_cases c18:a0≤90
           ·rw [if_pos c18] at H
            have c18b0:decide (a0≤90)=true:=decide_eq_true c18
            clear c18
            have H':=aM H
            clear H
            go_wp2
            go_meet
            case rel=>exact ⟨_,(true),(by first | rfl | (simp;done) | (simp [*];done)),H',⟨by have:=HJ1.out;have:=HJ6.out;first | omega | exact Nat.le_refl _⟩,zQ⟩
           ·rw [if_neg c18] at H
            have c18b0:decide (a0≤90)=false:=decide_eq_false c18
            clear c18
            by_cases c19:a0≥48
            ·rw [if_pos c19] at H
             have c19b0:decide (48≤a0)=true:=decide_eq_true c19
             clear c19
             have H':=aM H
             clear H
             go_wp2
             go_meet
             case rel=>exact ⟨_,(decide (a0≤57)),(by first | rfl | (simp;done) | (simp [*];done)),H',⟨by have:=HJ1.out;have:=HJ6.out;first | omega | exact Nat.le_refl _⟩,zQ⟩
            ·rw [if_neg c19] at H
             have c19b0:decide (48≤a0)=false:=decide_eq_false c19
             clear c19
             have H':=aM H
             clear H
             go_wp2
             go_meet
             case rel=>exact ⟨_,(false),(by first | rfl | (simp;done) | (simp [*];done)),H',⟨by have:=HJ1.out;have:=HJ6.out;first | omega | exact Nat.le_refl _⟩,zQ⟩
          ·rw [if_neg c17] at H
           have c17b0:decide (65≤a0)=false:=decide_eq_false c17
           clear c17
           by_cases c20:a0≥48
           ·rw [if_pos c20] at H
            have c20b0:decide (48≤a0)=true:=decide_eq_true c20
            clear c20
            have H':=aM H
            clear H
            go_wp2
            go_meet
            case rel=>exact ⟨_,(decide (a0≤57)),(by first | rfl | (simp;done) | (simp [*];done)),H',⟨by have:=HJ1.out;have:=HJ6.out;first | omega | exact Nat.le_refl _⟩,zQ⟩
           ·rw [if_neg c20] at H
            have c20b0:decide (48≤a0)=false:=decide_eq_false c20
            clear c20
            have H':=aM H
            clear H
            go_wp2
            go_meet
            case rel=>exact ⟨_,(false),(by first | rfl | (simp;done) | (simp [*];done)),H',⟨by have:=HJ1.out;have:=HJ6.out;first | omega | exact Nat.le_refl _⟩,zQ⟩
        ·rw [if_neg c15] at H
         have c15b0:decide (97≤a0)=false:=decide_eq_false c15
         clear c15
         (first | rw [c15b0] | (simp only [i64_w,i32_w];rw [c15b0]) | skip)
         by_cases c21:a0≥65
         ·rw [if_pos c21] at H
          have c21b0:decide (65≤a0)=true:=decide_eq_true c21
          clear c21
          by_cases c22:a0≤90
          ·rw [if_pos c22] at H
           have c22b0:decide (a0≤90)=true:=decide_eq_true c22
           clear c22
           have H':=aM H
           clear H
           go_wp2
           go_meet
           case rel=>exact ⟨_,(true),(by first | rfl | (simp;done) | (simp [*];done)),H',⟨by have:=HJ1.out;have:=HJ6.out;first | omega | exact Nat.le_refl _⟩,zQ⟩
          ·rw [if_neg c22] at H
           have c22b0:decide (a0≤90)=false:=decide_eq_false c22
           clear c22
           by_cases c23:a0≥48
           ·rw [if_pos c23] at H
            have c23b0:decide (48≤a0)=true:=decide_eq_true c23
            clear c23
            have H':=aM H
            clear H
            go_wp2
            go_meet
            case rel=>exact ⟨_,(decide (a0≤57)),(by first | rfl | (simp;done) | (simp [*];done)),H',⟨by have:=HJ1.out;have:=HJ6.out;first | omega | exact Nat.le_refl _⟩,zQ⟩
           ·rw [if_neg c23] at H
            have c23b0:decide (48≤a0)=false:=decide_eq_false c23
            clear c23
            have H':=aM H
            clear H
            go_wp2
            go_meet
            case rel=>exact ⟨_,(false),(by first | rfl | (simp;done) | (simp [*];done)),H',⟨by have:=HJ1.out;have:=HJ6.out;first | omega | exact Nat.le_refl _⟩,zQ⟩
         ·rw [if_neg c21] at H
          have c21b0:decide (65≤a0)=false:=decide_eq_false c21
          clear c21
          by_cases c24:a0≥48
          ·rw [if_pos c24] at H
           have c24b0:decide (48≤a0)=true:=decide_eq_true c24
           clear c24
           have H':=aM H
           clear H
           go_wp2
           go_meet
           case rel=>exact ⟨_,(decide (a0≤57)),(by first | rfl | (simp;done) | (simp [*];done)),H',⟨by have:=HJ1.out;have:=HJ6.out;first | omega | exact Nat.le_refl _⟩,zQ⟩
          ·rw [if_neg c24] at H
           have c24b0:decide (48≤a0)=false:=decide_eq_false c24
           clear c24
           have H':=aM H
           clear H
           go_wp2
           go_meet
           case rel=>exact ⟨_,(false),(by first | rfl | (simp;done) | (simp [*];done)),H',⟨by have:=HJ1.out;have:=HJ6.out;first | omega | exact Nat.le_refl _⟩,zQ⟩
       case rest=>
        clear HC14
        try clear c1
        try clear c2
        try clear p2
        try clear c3
        try clear c3b0
        try clear c3b1
        try clear c4
        try clear c4b0
        try clear c4b1
        try clear c5
        try clear c5b0
        try clear c5b1
        try clear c6
        try clear c7
        try clear c8
        try clear c8b0
        try clear c8b1
        try clear c9
        try clear c9b0
        try clear c9b1
        try clear c10
        try clear c10b0
        try clear c10b1
        try clear c11
        try clear c11b0
        try clear c11b1
        try clear c12
        try clear c12b0
        try clear c12b1
        try clear c13
        try clear c15
        try clear c15b0
        try clear c16
        try clear c16b0
        try clear c17
        try clear c17b0
        try clear c18
        try clear c18b0
        try clear c19
        try clear c19b0
        try clear c20
        try clear c20b0
        try clear c21
        try clear c21b0
        try clear c22
        try clear c22b0
        try clear c23
        try clear c23b0
        try clear c24
        try clear c24b0
        try clear p2
        obtain ⟨kq,x41_13,rfl,HA,HJ13,⟨mc13,rfl⟩⟩:=hcut
        cases kq with
        | zero=>exact absurd HA.out (by simp [token_kind.j2])
        | succ kj13=>
         have H:=HA.out
         clear HA
         simp only [token_kind.j2] at H
         by_cases c25:x41_13=true
         ·subst c25
          have H1:(some 2)=some r:=by rw [if_pos rfl] at H;exact H
          clear H
          have H:=H1
          clear H1
          obtain rfl:=Option.some.inj H
          go_wp2
          go_ret
          exact ⟨by first | rfl | (simp;done) | (simp [*];done),zQ⟩
         ·replace c25:=Bool.eq_false_iff.mpr c25
          subst c25
          have H1:(if a0=46 then (token_kind.j3 kj13 a0 true) else (if a0=37 then (token_kind.j3 kj13 a0 true) else (if a0=64 then (token_kind.j3 kj13 a0 true) else (if a0=45 then (token_kind.j3 kj13 a0 true) else (token_kind.j3 kj13 a0 (a0==95))))))=some r:=by rw [if_neg (show ¬ (false=true) by decide)] at H;exact H
          clear H
          have H:=H1
          clear H1
          have HC26:=aM H
          clear H
          go_upto_region 7 with (fail)
          go_cut [64] (fun v64 wc=>∃ (kq:Nat) (x64_25:Bool),v64=.bool x64_25∧Aside0 (token_kind.j3 kq a0 x64_25=some r)∧Aside0 (kq≤kj13)∧Drawn0 w wc)
          case first=>
           have H:=HC26.out
           clear HC26
           by_cases c27:a0=46
           ·rw [if_pos c27] at H
            have c27b0:(a0==46)=true:=beq_iff_eq.mpr c27
            have c27b1:(a0 !=46)=false:=bne_eq_false_iff_eq.mpr c27
            clear c27
            (first | rw [c27b0] | (simp only [i64_w,i32_w];rw [c27b0]) | skip)
            have H':=aM H
            clear H
            go_wp2
            go_meet
            case rel=>exact ⟨_,(true),(by first | rfl | (simp;done) | (simp [*];done)),H',⟨by have:=HJ1.out;have:=HJ6.out;have:=HJ13.out;first | omega | exact Nat.le_refl _⟩,zQ⟩
           ·rw [if_neg c27] at H
            have c27b0:(a0==46)=false:=beq_eq_false_iff_ne.mpr c27
            have c27b1:(a0 !=46)=true:=bne_iff_ne.mpr c27
            (first | rw [c27b0] | (simp only [i64_w,i32_w];rw [c27b0]) | skip)
            by_cases c28:a0=37
            ·rw [if_pos c28] at H
             have c28b0:(a0==37)=true:=beq_iff_eq.mpr c28
             have c28b1:(a0 !=37)=false:=bne_eq_false_iff_eq.mpr c28
             clear c28
             have H':=aM H
             clear H
             go_wp2
             go_meet
             case rel=>exact ⟨_,(true),(by first | rfl | (simp;done) | (simp [*];done)),H',⟨by have:=HJ1.out;have:=HJ6.out;have:=HJ13.out;first | omega | exact Nat.le_refl _⟩,zQ⟩
            ·rw [if_neg c28] at H
             have c28b0:(a0==37)=false:=beq_eq_false_iff_ne.mpr c28
             have c28b1:(a0 !=37)=true:=bne_iff_ne.mpr c28
             by_cases c29:a0=64
             ·rw [if_pos c29] at H
              have c29b0:(a0==64)=true:=beq_iff_eq.mpr c29
              have c29b1:(a0 !=64)=false:=bne_eq_false_iff_eq.mpr c29
              clear c29
              have H':=aM H
              clear H
              go_wp2
              go_meet
              case rel=>exact ⟨_,(true),(by first | rfl | (simp;done) | (simp [*];done)),H',⟨by have:=HJ1.out;have:=HJ6.out;have:=HJ13.out;first | omega | exact Nat.le_refl _⟩,zQ⟩
             ·rw [if_neg c29] at H
              have c29b0:(a0==64)=false:=beq_eq_false_iff_ne.mpr c29
              have c29b1:(a0 !=64)=true:=bne_iff_ne.mpr c29
              by_cases c30:a0=45
              ·rw [if_pos c30] at H
               have c30b0:(a0==45)=true:=beq_iff_eq.mpr c30
               have c30b1:(a0 !=45)=false:=bne_eq_false_iff_eq.mpr c30
               clear c30
               have H':=aM H
               clear H
               go_wp2
               go_meet
               case rel=>exact ⟨_,(true),(by first | rfl | (simp;done) | (simp [*];done)),H',⟨by have:=HJ1.out;have:=HJ6.out;have:=HJ13.out;first | omega | exact Nat.le_refl _⟩,zQ⟩
              ·rw [if_neg c30] at H
               have c30b0:(a0==45)=false:=beq_eq_false_iff_ne.mpr c30
               have c30b1:(a0 !=45)=true:=bne_iff_ne.mpr c30
               have H':=aM H
               clear H
               go_wp2
               go_meet
               case rel=>exact ⟨_,((a0==95)),(by first | rfl | (simp;done) | (simp [*];done)),H',⟨by have:=HJ1.out;have:=HJ6.out;have:=HJ13.out;first | omega | exact Nat.le_refl _⟩,zQ⟩
          case rest=>
           clear HC26
           try clear c1
           try clear c2
           try clear p2
           try clear c3
           try clear c3b0
           try clear c3b1
           try clear c4
           try clear c4b0
           try clear c4b1
           try clear c5
           try clear c5b0
           try clear c5b1
           try clear c6
           try clear c7
           try clear c8
           try clear c8b0
           try clear c8b1
           try clear c9
           try clear c9b0
           try clear c9b1
           try clear c10
           try clear c10b0
           try clear c10b1
           try clear c11
           try clear c11b0
           try clear c11b1
           try clear c12
           try clear c12b0
           try clear c12b1
           try clear c13
           try clear c15
           try clear c15b0
           try clear c16
           try clear c16b0
           try clear c17
           try clear c17b0
           try clear c18
           try clear c18b0
           try clear c19
           try clear c19b0
           try clear c20
           try clear c20b0
           try clear c21
           try clear c21b0
           try clear c22
           try clear c22b0
           try clear c23
           try clear c23b0
           try clear c24
           try clear c24b0
           try clear c25
           try clear c27
           try clear c27b0
           try clear c27b1
           try clear c28
           try clear c28b0
           try clear c28b1
           try clear c29
           try clear c29b0
           try clear c29b1
           try clear c30
           try clear c30b0
           try clear c30b1
           try clear p2
           obtain ⟨kq,x64_25,rfl,HA,HJ25,⟨mc25,rfl⟩⟩:=hcut
           cases kq with
           | zero=>exact absurd HA.out (by simp [token_kind.j3])
           | succ kj25=>
            have H:=HA.out
            clear HA
            simp only [token_kind.j3] at H
            by_cases c31:x64_25=true
            ·subst c31
             have H1:(some 2)=some r:=by rw [if_pos rfl] at H;exact H
             clear H
             have H:=H1
             clear H1
             obtain rfl:=Option.some.inj H
             go_wp2
             go_ret
             exact ⟨by first | rfl | (simp;done) | (simp [*];done),zQ⟩
            ·replace c31:=Bool.eq_false_iff.mpr c31
             subst c31
             have H1:(if a0=35 then (some 3) else (some 4))=some r:=by rw [if_neg (show ¬ (false=true) by decide)] at H;exact H
             clear H
             have H:=H1
             clear H1
             by_cases c32:a0=35
             ·rw [if_pos c32] at H
              have c32b0:(a0==35)=true:=beq_iff_eq.mpr c32
              have c32b1:(a0 !=35)=false:=bne_eq_false_iff_eq.mpr c32
              clear c32
              obtain rfl:=Option.some.inj H
              go_wp2
              go_ret
              exact ⟨by first | rfl | (simp;done) | (simp [*];done),zQ⟩
             ·rw [if_neg c32] at H
              have c32b0:(a0==35)=false:=beq_eq_false_iff_ne.mpr c32
              have c32b1:(a0 !=35)=true:=bne_iff_ne.mpr c32
              obtain rfl:=Option.some.inj H
              go_wp2
              go_ret
              exact ⟨by first | rfl | (simp;done) | (simp [*];done),zQ⟩
end Go.Proofs.Ytkjdblbgmomieaa.PSh
end
-- from YtkjdblbgmomieaaHSplit
section
namespace Go.Proofs.Ytkjdblbgmomieaa.PSh
set_option maxHeartbeats 2000000
set_option maxRecDepth 100000
open Go.RowKit Go.Proofs.YtkjdblbgmomieaaW.PrintWords Go.Proofs.YtkjdblbgmomieaaW.PrintLast Go.Proofs.YtkjdblbgmomieaaW.PrintMore Go.Proofs.Ytkjdblbgmomieaa.Str
set_option linter.unusedVariables false
set_option linter.unusedSimpArgs false
theorem kind_some (c:Int):token_kind.f 10 c=some (kindR c):=by
  unfold token_kind.f kindR
  by_cases h0:c=32∨c=9∨c=10∨c=13
  · rw [if_pos h0]
    rcases h0 with rfl | rfl | rfl | rfl<;>decide+kernel
  rw [if_neg h0]
  by_cases h1:c=40∨c=41∨c=123∨c=125∨c=61∨c=58
  · rw [if_pos h1]
    rcases h1 with rfl | rfl | rfl | rfl | rfl | rfl<;>decide+kernel
  rw [if_neg h1]
  have e0:(c==13)=false:=by rw [beq_eq_false_iff_ne];omega
  have e1:(c==58)=false:=by rw [beq_eq_false_iff_ne];omega
  rw [if_neg (by omega),if_neg (by omega),if_neg (by omega),e0]
  simp only [token_kind.j0,Bool.false_eq_true,if_false]
  rw [if_neg (by omega),if_neg (by omega),if_neg (by omega),if_neg (by omega),if_neg (by omega),e1]
  simp only [token_kind.j1,token_kind.j2,token_kind.j3,Bool.false_eq_true,if_false,if_true,decide_eq_true_eq,beq_iff_eq,ge_iff_le]
  by_cases g1:(97≤c∧c≤122)∨(65≤c∧c≤90)∨(48≤c∧c≤57)
  · rw [if_pos g1]
    rcases g1 with ⟨g1,g2⟩ | ⟨g1,g2⟩ | ⟨g1,g2⟩
    · rw [if_pos g1,if_pos g2]
    · rw [if_neg (by omega),if_pos g1,if_pos g2]
    · rw [if_neg (by omega),if_neg (by omega),if_pos g1,if_pos g2]
  rw [if_neg g1]
  by_cases g2:c=46∨c=37∨c=64∨c=45∨c=95
  · rw [if_pos g2]
    rcases g2 with rfl | rfl | rfl | rfl | rfl<;>decide+kernel
  rw [if_neg g2]
  by_cases g3:c=35
  · subst g3;decide+kernel
  rw [if_neg g3,if_neg (show ¬ c=46 by omega),if_neg (show ¬ c=37 by omega),if_neg (show ¬ c=64 by omega),if_neg (show ¬ c=45 by omega),if_neg (show ¬ c=95 by omega),if_neg g3]
  by_cases b1:97≤c
  · rw [if_pos b1,if_neg (by omega),if_pos (by omega),if_neg (by omega),if_pos (by omega),if_neg (by omega)]
  · rw [if_neg b1]
    by_cases b2:65≤c
    · rw [if_pos b2,if_neg (by omega),if_pos (by omega),if_neg (by omega)]
    · rw [if_neg b2]
      by_cases b3:48≤c
      · rw [if_pos b3,if_neg (by omega)]
      · rw [if_neg b3]
theorem encode_small (c:UInt8) (h:c.toNat<128):Utf8.encode (c.toNat:Int)=mk [c]:=by
  have e:c=UInt8.ofNat c.toNat:=by simp
  have key:∀ n:Nat,n<128→Utf8.encode ((UInt8.ofNat n).toNat:Int)=mk [UInt8.ofNat n]:=by decide+kernel
  have:=key c.toNat h
  rw [← e] at this
  exact this
theorem kind_sign {c:Int} (h:kindR c=1):c<128:=by
  unfold kindR at h
  by_cases h0:c=32∨c=9∨c=10∨c=13
  · omega
  rw [if_neg h0] at h
  by_cases h1:c=40∨c=41∨c=123∨c=125∨c=61∨c=58
  · omega
  rw [if_neg h1] at h
  repeat' split at h
  all_goals cases h
theorem iter_old (w:World) (s:ByteArray) (p:Nat) {k:Nat} {o:Obj} (h:w.heap[k]?=some o):(w.iter s p).heap[k]?=some o:=by
  have hlt:=(Array.getElem?_eq_some_iff.1 h).1
  have:(w.iter s p)=w.alloc (.stringIter s p):=rfl
  rw [this]
  exact blk_alloc h _
theorem iter_below {B:Nat} {u w:World} (h:Below B u w) (s:ByteArray) (p:Nat) (hB:B≤w.heap.size):Below B u (w.iter s p):=by
  have:(w.iter s p)=w.alloc (.stringIter s p):=rfl
  rw [this]
  exact h.alloc hB _
def Rest (s:ByteArray) (B bf bo bt be bi pos:Nat) (fr:Int) (out:List Tok) (w wr:World):Prop:=∃ v:Value,wr.heap[bf]?=some (.cells #[.int .i64 fr] 3 (0,0))∧wr.heap[bo]?=some (.cells #[v] 77 (0,0))∧wr.heap[bt]?=some (.cells #[.string s] 9 (0,0))∧
  wr.heap[be]?=some (.cells #[.int .i64 0,.int .i64 0] 28 (0,0))∧wr.heap[bi]?=some (.stringIter s pos)∧Kd.R k101 101 wr B (fun _=>True) v out∧Below B w wr
theorem rest_iter {s:ByteArray} {B bf bo bt be bi pos:Nat} {fr:Int} {out:List Tok} {w wr:World} (h:Rest s B bf bo bt be bi pos fr out w wr) (hd:bf≠bi∧bo≠bi∧bt≠bi∧be≠bi∧B≤bi) (pos':Nat):Rest s B bf bo bt be bi pos' fr out w (wr.iterAt bi s pos'):=by
  obtain ⟨v,hf,ho,ht,he,hi,hv,hb⟩:=h
  refine ⟨v,(Lib.iterAt_other _ _ _ _ _ hd.1).trans hf,(Lib.iterAt_other _ _ _ _ _ hd.2.1).trans ho,(Lib.iterAt_other _ _ _ _ _ hd.2.2.1).trans ht,(Lib.iterAt_other _ _ _ _ _ hd.2.2.2.1).trans he,Lib.iterAt_heap _ _ _ _ _ hi,?_,Lib.below_iterAt hb hd.2.2.2.2 _ _⟩
  have h1:=Kd.R_mono (Kd.R_bound hv) (ok':=fun k=>k≠bi) (fun k hk e=>by
    obtain ⟨_,_,_,q,_,cells,hc⟩:=hk
    rw [e,hi] at hc
    cases hc)
  exact Kd.R_mono (Kd.R_step h1 (fun k hk _=>Lib.iterAt_other _ _ _ _ _ hk)) (fun _ _=>trivial)
theorem rest_drewN {s:ByteArray} {B bf bo bt be bi pos:Nat} {fr:Int} {out:List Tok} {w wr:World} (h:Rest s B bf bo bt be bi pos fr out w wr) (n:Nat):Rest s B bf bo bt be bi pos fr out w (wr.drewN n):=by
  obtain ⟨v,hf,ho,ht,he,hi,hv,hb⟩:=h
  exact ⟨v,hf,ho,ht,he,hi,Kd.R_drewN hv n,pw_below_drewN hb n⟩
theorem rest_stays {s:ByteArray} {B bf bo bt be bi pos:Nat} {out out1:List Tok} {w wr w1:World} {v v1:Value} (ht:wr.heap[bt]?=some (.cells #[.string s] 9 (0,0))) (he:wr.heap[be]?=some (.cells #[.int .i64 0,.int .i64 0] 28 (0,0)))
    (hi:wr.heap[bi]?=some (.stringIter s pos)) (hv:Kd.R k101 101 wr B (fun _=>True) v out) (hd:bt≠bf∧bt≠bo∧be≠bf∧be≠bo∧bi≠bf∧bi≠bo)
    (hf1:w1.heap[bf]?=some (.cells #[.int .i64 (-1)] 3 (0,0))) (ho1:w1.heap[bo]?=some (.cells #[v1] 77 (0,0))) (hv1:Kd.R k101 101 w1 B (fun _=>True) v1 out1) (hb1:Below B w w1) (hst:Stays wr w1 bf bo v.ownBlock):
    Rest s B bf bo bt be bi pos (-1) out1 w w1:=by
  refine ⟨v1,hf1,ho1,?_,?_,?_,hv1,hb1⟩
  · exact (hst.2 bt (blk_lt ht) hd.1 hd.2.1 (Kd.R_ne hv ht (by decide))).trans ht
  · exact (hst.2 be (blk_lt he) hd.2.2.1 hd.2.2.2.1 (Kd.R_ne hv he (by decide))).trans he
  · refine (hst.2 bi (blk_lt hi) hd.2.2.2.2.1 hd.2.2.2.2.2 (fun e=>?_)).trans hi
    obtain ⟨cells,hc⟩:=Kd.R_typed hv bi e.symm
    rw [hi] at hc
    cases hc
theorem token_Split.calls (a0:ByteArray) (r1:List Tok) (r2 r3:Int) (w:World) (h:token_Split.f a0=some (r1,r2,r3)):
    Calls Try.prog 56 #[.string a0] w fun e w'=>∃ v0_:Value,e=.returned (.tuple #[v0_,.agg #[.int .i64 r2,.int .i64 r3]])∧Kd.R k101 101 w' w.heap.size (fun _=>True) v0_ r1∧Below w.heap.size w w':=by
  have hR:splitL a0=(r1,r2,r3):=Option.some.inj h
  clear h
  by_cases hsz:65536<a0.size
  · have hd:decide ((65536:Int)<(a0.size:Int))=true:=decide_eq_true (by omega)
    have hR2:(([],6,65536):List Tok × Int × Int)=(r1,r2,r3):=by rw [← hR];unfold splitL;rw [if_pos hsz]
    obtain ⟨rfl,h2⟩:=Prod.mk.inj hR2
    obtain ⟨rfl,rfl⟩:=Prod.mk.inj h2
    clear hR hR2 h2 hsz
    go_enter Try.func56,Try.ntmps56
    have e0:=blk_new (w.alloc (.cells #[.string a0] 9)) (.cells #[.int .i64 6,.int .i64 65536] 28)
    simp only [World.size_alloc] at e0
    have E0:=aM e0
    clear e0
    go_wp2
    refine bodyPost_ret (results_tc rfl _ _ (w.heap.size+1) 28 #[.int .i64 6,.int .i64 65536] (0,0) _ rfl E0.out Try.underlying28 rfl (by kernel_rfl)) rfl ?_
    exact ⟨_,rfl,Kd.R_nil _ _ _ _ _,below_alloc (below_alloc (Below.refl _ _) _) _⟩
  · have hd:decide ((65536:Int)<(a0.size:Int))=false:=decide_eq_false (by omega)
    have HR:=aM (show splitGo a0 a0.data.toList 0 (-1) false []=(r1,r2,r3) by rw [← hR];unfold splitL;rw [if_neg hsz])
    clear hR
    have hmf:∀ (fn:Fn) (first cap:Array Value) (w:World),(Instr.makeFunc fn first cap).run Try.prog w=.ok (.func fn first cap) w:=fun _ _ _ _=>rfl
    go_enter Try.func56,Try.ntmps56
    go_wp2
    go_loopg [6] a0.size (fun kq v6 w'=>∃ (noted:Bool) (pos:Nat) (fr:Int) (out:List Tok),v6=.bool noted∧Aside0 (pos≤a0.size∧(fr=-1∨0≤fr∧fr<pos∧(out.length:Int)≤fr)∧out.length≤pos)∧Aside0 (splitGo a0 (a0.data.toList.drop pos) pos fr noted out=(r1,r2,r3))∧Aside0 (Rest a0 w.heap.size (w.heap.size+1+1+1) (w.heap.size+1+1) w.heap.size (w.heap.size+1) (w.heap.size+1+1+1+1) pos fr out w w')∧Aside0 (kq=a0.size - pos))
    case atStart=>
      have b0:=blk_new w (.cells #[.string a0] 9)
      have b1:=blk_new (w.alloc (.cells #[.string a0] 9)) (.cells #[.int .i64 0,.int .i64 0] 28)
      have b2:=blk_new ((w.alloc (.cells #[.string a0] 9)).alloc (.cells #[.int .i64 0,.int .i64 0] 28)) (.cells #[.slice none 0 0] 77)
      have b3:=blk_new (((w.alloc (.cells #[.string a0] 9)).alloc (.cells #[.int .i64 0,.int .i64 0] 28)).alloc (.cells #[.slice none 0 0] 77)) (.cells #[.int .i64 (-1)] 3)
      simp only [World.size_alloc] at b1 b2 b3
      refine ⟨false,0,-1,[],rfl,⟨by omega,.inl rfl,Nat.le_refl _⟩,HR,⟨.slice none 0 0,?_,?_,?_,?_,?_,Kd.R_nil _ _ _ _ _,?_⟩,⟨by omega⟩⟩
      · exact iter_old _ _ _ b3
      · exact iter_old _ _ _ (blk_alloc b2 _)
      · exact iter_old _ _ _ (blk_alloc (blk_alloc (blk_alloc b0 _) _) _)
      · exact iter_old _ _ _ (blk_alloc (blk_alloc b1 _) _)
      · have:=World.iter_heap ((((w.alloc (.cells #[.string a0] 9)).alloc (.cells #[.int .i64 0,.int .i64 0] 28)).alloc (.cells #[.slice none 0 0] 77)).alloc (.cells #[.int .i64 (-1)] 3)) a0 0
        simpa using this
      · exact iter_below (below_alloc (below_alloc (below_alloc (below_alloc (Below.refl _ _) _) _) _) _) _ _ (by simp;omega)
    case round=>
      obtain ⟨noted,pos,fr,out,rfl,HA,HS,HX,HK⟩:=hrel
      clear HR
      obtain ⟨v,hf,ho,ht,he,hi,hv,hb⟩:=HX.out
      have HF:=aM hf
      have HO:=aM ho
      have HT:=aM ht
      have HE:=aM he
      have HI:=aM hi
      have HV:=aM hv
      have HB:=aM hb
      clear hf ho ht he hi hv hb HX
      obtain ⟨hA1,hA2,hA3⟩:=HA.out
      have hcw:(closeW a0 fr pos out).length≤pos:=by
        have:=closeW_len a0 fr pos out
        split at this<;>omega
      by_cases hp:pos<a0.size
      · have hn:=fun ty=>Lib.run_next_any_at (P:=Try.prog) wr (w.heap.size+1+1+1+1) a0 pos ty HI.out hp
        have hle:=rune_le a0 pos hp
        have RI:=rest_iter ⟨v,HF.out,HO.out,HT.out,HE.out,HI.out,HV.out,HB.out⟩ (by omega) (pos+(Utf8.decode a0 pos).2)
        have hstep:=step_note a0 pos hp fr out
        have hkind:=rune_kind a0 pos hp
        have hother:=step_other a0 pos hp fr out
        have hr:=decode_le a0 pos
        generalize (Utf8.decode a0 pos).2=n at *
        generalize (Utf8.decode a0 pos).1=r at *
        have RX:=aM RI
        have HST:=aM hstep
        have HKD:=aM hkind
        have HOT:=aM hother
        clear RI hstep hkind hother HF HO HT HE HI HV HB
        cases noted with
        | true=>
          go_wp2
          go_roundg (a0.size - (pos+n))
          case measure=>have:=HK.out;omega
          case rel=>exact ⟨((r:Int) !=10),pos+n,fr,out,rfl,⟨by omega,by omega,by omega⟩,⟨by rw [← HST.out];exact HS.out⟩,RX,⟨rfl⟩⟩
        | false=>
          go_wp2_with fail
          refine (token_kind.calls 10 (r:Int) (kindR r) _ (kind_some _)).mono ?_
          rintro e w' ⟨rfl,⟨nd,rfl⟩⟩
          have RY:=aM (rest_drewN RX.out nd)
          clear RX hn
          generalize (wr.iterAt (w.heap.size+1+1+1+1) a0 (pos+n)).drewN nd=wk at *
          obtain ⟨v,hf,ho,ht,he,hi,hv,hb⟩:=RY.out
          have HF:=aM hf
          have HO:=aM ho
          have HT:=aM ht
          have HE:=aM he
          have HI:=aM hi
          have HV:=aM hv
          have HB:=aM hb
          clear hf ho ht he hi hv hb
          rcases kindR_cases r with hk | hk | hk | hk | hk
          · -- a blank
            obtain ⟨rfl,rfl⟩:=HKD.out (by rw [hk];decide)
            have HK2:=aM hk
            rw [hk]
            clear hk
            go_wp2_with fail
            refine (split_any a0 fr pos w.heap.size (w.heap.size+1+1+1) (w.heap.size+1+1) w.heap.size v out w wk HF.out HO.out HT.out HV.out HB.out ⟨by omega,by omega⟩ (by omega) (by omega) (by omega) (by omega)).mono ?_
            rintro e w1 ⟨rfl,v1,hf1,ho1,hv1,hb1,hst⟩
            have RX:=aM (rest_stays HT.out HE.out HI.out HV.out (by omega) hf1 ho1 hv1 hb1 hst)
            clear hf1 ho1 hv1 hb1 hst
            clear HF HO HT HE HI HV HB RY
            go_wp2
            go_roundg (a0.size - (pos+1))
            case measure=>have:=HK.out;omega
            case rel=>
              refine ⟨false,pos+1,-1,closeW a0 fr pos out,rfl,⟨by omega,.inl rfl,?_⟩,⟨?_⟩,RX,⟨rfl⟩⟩
              · omega
              · have h9:=HS.out
                have h8:=HK2.out
                rw [split_drop a0 pos hp,splitGo,if_neg (by simp),if_pos h8] at h9
                exact h9
          · -- a sign
            obtain ⟨rfl,hr1⟩:=HKD.out (by rw [hk];decide)
            have HR1:=aM hr1
            clear hr1
            have HK2:=aM hk
            rw [hk]
            clear hk
            go_wp2_with fail
            refine (split_any a0 fr pos w.heap.size (w.heap.size+1+1+1) (w.heap.size+1+1) w.heap.size v out w wk HF.out HO.out HT.out HV.out HB.out ⟨by omega,by omega⟩ (by omega) (by omega) (by omega) (by omega)).mono ?_
            rintro e w1 ⟨rfl,v1,hf1,ho1,hv1,hb1,hst⟩
            have RX:=aM (rest_stays HT.out HE.out HI.out HV.out (by omega) hf1 ho1 hv1 hb1 hst)
            clear hf1 ho1 hv1 hb1 hst
            clear HF HO HT HE HI HV HB RY
            clear HOT HKD HST
            have hc128:(a0.data.toList[pos]'hp).toNat<128:=by have:=kind_sign HK2.out;have:=HR1.out;omega
            have HEN:=aM (encode_small _ hc128)
            rw [← HR1.out] at HEN
            have hlen:(closeW a0 fr pos out).length≤65536:=by omega
            obtain ⟨v1,hf,ho,ht,he,hi,hv,hb⟩:=RX.out
            have co:w1.cell? ⟨w.heap.size+1+1,0,none⟩=some v1:=(blk_cell ho 0).trans rfl
            have zo:=blk_frozen ho 0
            have HF:=aM hf
            have HO:=aM ho
            have HT:=aM ht
            have HE:=aM he
            have HI:=aM hi
            have HV:=aM hv
            have HB:=aM hb
            clear hf ho ht he hi hv hb
            have hlt:w.heap.size+1+1+1+1<w1.heap.size:=blk_lt HI.out
            have hbo:∀ {w2:World},w1.grownBy w2 v1.ownBlock→w2.heap[w.heap.size+1+1]?=some (.cells #[v1] 77 (0,0)):=fun hg=>blk_grown HO.out hg (Kd.R_ne HV.out HO.out (by decide))
            go_wp2_with (at_builtin;generalize Utf8.encode (r:Int)=enc at HEN ⊢;refine Kd.R_append k101 (w0:=w) (W:=w1) w.heap.size rfl (.tmp 38) (.tmp 43) 77 101 (.agg #[(.string ⟨#[]⟩),(.int .i64 0)]) 24 rfl Try.underlying77 infoTok rfl (by decide) (by omega) v1 (closeW a0 fr pos out) (⟨enc,pos⟩:S101) [.string (enc),.int .i64 pos] (fun _=>True) (fun _=>False) rfl rfl (k101_mkM _ _ _ (⟨enc,pos⟩:S101)) (fun _ hk=>hk.elim) (fun _ _=>trivial) HV.out HB.out (by omega) (by omega) ?_;intro v2 w2 ho2 hb2 hg2 hat2;obtain ⟨A1,q1,rfl⟩:=Kd.R_slice ho2;have HO2:=aM ho2;have HB2:=aM hb2;have HG2:=aM hg2;have c2:w2.cell? ⟨w.heap.size+1+1,0,none⟩=some v1:=(blk_cell (hbo hg2) 0).trans rfl;have z2:w2.frozen? ⟨w.heap.size+1+1,0,none⟩=false:=blk_frozen (hbo hg2) 0;clear ho2 hb2 hg2 hat2)
            go_roundg (a0.size - (pos+1))
            case measure=>have:=HK.out;omega
            case rel=>
              have h9:=HS.out
              rw [split_drop a0 pos hp,splitGo,if_neg (by simp),if_neg (by have:=HK2.out;rw [HR1.out] at this;omega),if_pos (by have:=HK2.out;rw [HR1.out] at this;exact this),← HEN.out] at h9
              have hne:=Kd.R_ne HV.out HO.out (by decide)
              have hE:=blk_grown HE.out HG2.out (Kd.R_ne HV.out HE.out (by decide))
              have hF:=blk_grown HF.out HG2.out (Kd.R_ne HV.out HF.out (by decide))
              have hT:=blk_grown HT.out HG2.out (Kd.R_ne HV.out HT.out (by decide))
              have hI:=blk_grown HI.out HG2.out (by
                intro e
                obtain ⟨cells,hc⟩:=Kd.R_typed HV.out _ e.symm
                rw [HI.out] at hc
                cases hc)
              refine ⟨false,pos+1,-1,_,rfl,⟨by omega,.inl rfl,?_⟩,⟨h9⟩,⟨_,blk_far hF (p:=⟨w.heap.size+1+1,0,none⟩) (by simp) _,by simpa using blk_set (hbo HG2.out) 0 _,blk_far hT (p:=⟨w.heap.size+1+1,0,none⟩) (show w.heap.size≠w.heap.size+1+1 by omega) _,blk_far hE (p:=⟨w.heap.size+1+1,0,none⟩) (show w.heap.size+1≠w.heap.size+1+1 by omega) _,(Below.heap_setCell _ _ _ _ (show w.heap.size+1+1+1+1≠w.heap.size+1+1 by omega)).trans hI,Kd.R_set HO2.out (hbo HG2.out) (by decide) 0 _,HB2.out.setCell (show w.heap.size≤w.heap.size+1+1 by omega) _⟩,⟨rfl⟩⟩
              rw [List.length_append,List.length_singleton]
              omega
          · -- part of a word
            obtain ⟨rfl,rfl⟩:=HKD.out (by rw [hk];decide)
            have HK2:=aM hk
            rw [hk]
            clear hk
            have cf:wk.cell? ⟨w.heap.size+1+1+1,0,none⟩=some (.int .i64 fr):=(blk_cell HF.out 0).trans rfl
            have zf:=blk_frozen HF.out 0
            have h9:=HS.out
            have h8:=HK2.out
            rw [split_drop a0 pos hp,splitGo,if_neg (by simp),if_neg (by omega),if_neg (by omega),if_pos h8] at h9
            clear h8 HK2 HS HOT HKD
            by_cases hfr:fr<0
            · have hdf:decide (fr<0)=true:=decide_eq_true hfr
              rw [if_pos hfr] at h9
              have HS:=aM h9
              clear h9
              go_wp2
              go_roundg (a0.size - (pos+1))
              case measure=>have:=HK.out;omega
              case rel=>
                refine ⟨false,pos+1,pos,out,rfl,⟨by omega,.inr ⟨by omega,by omega,by omega⟩,by omega⟩,HS,⟨v,by simpa using blk_set HF.out 0 (.int .i64 pos),blk_far HO.out (p:=⟨w.heap.size+1+1+1,0,none⟩) (by simp) _,blk_far HT.out (p:=⟨w.heap.size+1+1+1,0,none⟩) (by simp;omega) _,blk_far HE.out (p:=⟨w.heap.size+1+1+1,0,none⟩) (by simp) _,(Below.heap_setCell _ _ _ _ (by simp)).trans HI.out,Kd.R_set HV.out HF.out (by decide) 0 _,HB.out.setCell (by simp;omega) _⟩,⟨rfl⟩⟩
            · have hdf:decide (fr<0)=false:=decide_eq_false hfr
              rw [if_neg hfr] at h9
              have HS:=aM h9
              clear h9
              go_wp2
              go_roundg (a0.size - (pos+1))
              case measure=>have:=HK.out;omega
              case rel=>
                exact ⟨false,pos+1,fr,out,rfl,⟨by omega,.inr ⟨by omega,by omega,by omega⟩,by omega⟩,HS,RY,⟨rfl⟩⟩
          · -- a note
            obtain ⟨rfl,rfl⟩:=HKD.out (by rw [hk];decide)
            have HK2:=aM hk
            rw [hk]
            clear hk
            go_wp2_with fail
            refine (split_any a0 fr pos w.heap.size (w.heap.size+1+1+1) (w.heap.size+1+1) w.heap.size v out w wk HF.out HO.out HT.out HV.out HB.out ⟨by omega,by omega⟩ (by omega) (by omega) (by omega) (by omega)).mono ?_
            rintro e w1 ⟨rfl,v1,hf1,ho1,hv1,hb1,hst⟩
            have RX:=aM (rest_stays HT.out HE.out HI.out HV.out (by omega) hf1 ho1 hv1 hb1 hst)
            clear hf1 ho1 hv1 hb1 hst
            clear HF HO HT HE HI HV HB RY
            go_wp2
            go_roundg (a0.size - (pos+1))
            case measure=>have:=HK.out;omega
            case rel=>
              refine ⟨true,pos+1,-1,closeW a0 fr pos out,rfl,⟨by omega,.inl rfl,?_⟩,⟨?_⟩,RX,⟨rfl⟩⟩
              · omega
              · have h9:=HS.out
                have h8:=HK2.out
                rw [split_drop a0 pos hp,splitGo,if_neg (by simp),if_neg (by omega),if_neg (by omega),if_neg (by omega),if_pos h8] at h9
                exact h9
          · -- another letter
            have HD:=HOT.out hk
            rw [HS.out] at HD
            obtain ⟨rfl,h2⟩:=Prod.mk.inj HD
            obtain ⟨rfl,rfl⟩:=Prod.mk.inj h2
            clear HD h2
            rw [hk]
            have c2:=(blk_cell HE.out 0).trans rfl
            have c3:=(blk_cell HE.out 1).trans rfl
            have z2:=blk_frozen HE.out 0
            have z3:=blk_frozen HE.out 1
            have e2:((wk.setCell ⟨w.heap.size+1,0,none⟩ (.int .i64 1)).setCell ⟨w.heap.size+1,1,none⟩ (.int .i64 pos)).heap[w.heap.size+1]?=some (.cells #[.int .i64 1,.int .i64 pos] 28 (0,0)):=blk_put (cs:=#[.int .i64 1,.int .i64 0]) (blk_put (cs:=#[.int .i64 0,.int .i64 0]) HE.out 0 _ rfl) 1 _ rfl
            have E2:=aM e2
            clear e2
            go_wp2
            refine bodyPost_ret (results_tc rfl _ _ (w.heap.size+1) 28 #[.int .i64 1,.int .i64 pos] (0,0) _ rfl E2.out Try.underlying28 rfl (by kernel_rfl)) rfl ?_
            exact ⟨_,rfl,Kd.R_nil _ _ _ _ _,(HB.out.setCell (by simp) _).setCell (by simp) _⟩
      · have hn:=fun ty=>Lib.run_next_end_at (P:=Try.prog) wr (w.heap.size+1+1+1+1) a0 pos ty HI.out hp
        have ct:wr.cell? ⟨w.heap.size,0,none⟩=some (.string a0):=(blk_cell HT.out 0).trans rfl
        have hpe:pos=a0.size:=by omega
        subst hpe
        go_wp2_with fail
        refine (split_any a0 fr a0.size w.heap.size (w.heap.size+1+1+1) (w.heap.size+1+1) w.heap.size v out w wr HF.out HO.out HT.out HV.out HB.out ⟨by omega,by omega⟩ (by omega) (Nat.le_refl _) (by omega) (by omega)).mono ?_
        rintro e w1 ⟨rfl,v1,hf1,ho1,hv1,hb1,hst1,hst2⟩
        have he1:=(hst2 (w.heap.size+1) (blk_lt HE.out) (by omega) (by omega) (Kd.R_ne HV.out HE.out (by decide))).trans HE.out
        obtain ⟨A1,q1,rfl⟩:=Kd.R_slice hv1
        have HF1:=aM hf1
        have HO1:=aM ho1
        have HE1:=aM he1
        have HV1:=aM hv1
        have HB1:=aM hb1
        have c1:=(blk_cell ho1 0).trans rfl
        have c2:=(blk_cell he1 0).trans rfl
        have c3:=(blk_cell he1 1).trans rfl
        have z2:=blk_frozen he1 0
        have z3:=blk_frozen he1 1
        clear hf1 ho1 he1 hv1 hb1 hst1 hst2 hn
        have HD:=aM (show (closeW a0 fr a0.size out,0,0)=(r1,r2,r3) by
          have e0:a0.data.toList.drop a0.size=[]:=List.drop_eq_nil_of_le (show a0.data.toList.length≤a0.size from Nat.le_refl _)
          rw [← HS.out,e0];rfl)
        go_wp2
        have hD:=HD.out
        obtain ⟨rfl,h2⟩:=Prod.mk.inj hD
        obtain ⟨rfl,rfl⟩:=Prod.mk.inj h2
        have e2:((w1.setCell ⟨w.heap.size+1,0,none⟩ (.int .i64 0)).setCell ⟨w.heap.size+1,1,none⟩ (.int .i64 0)).heap[w.heap.size+1]?=some (.cells #[.int .i64 0,.int .i64 0] 28 (0,0)):=blk_put (cs:=#[.int .i64 0,.int .i64 0]) (blk_put (cs:=#[.int .i64 0,.int .i64 0]) HE1.out 0 _ rfl) 1 _ rfl
        refine bodyPost_ret (results_tc rfl _ _ (w.heap.size+1) 28 #[.int .i64 0,.int .i64 0] (0,0) _ rfl e2 Try.underlying28 rfl (by kernel_rfl)) rfl ?_
        exact ⟨_,rfl,Kd.R_set (Kd.R_set HV1.out HE1.out (by decide) 0 _) (blk_put (cs:=#[.int .i64 0,.int .i64 0]) HE1.out 0 _ rfl) (by decide) 1 _,(HB1.out.setCell (by simp) _).setCell (by simp) _⟩
end Go.Proofs.Ytkjdblbgmomieaa.PSh
end
-- from YtkjdblbgmomieaaHTakes
section
namespace Go.Proofs.Ytkjdblbgmomieaa.PSh
set_option maxHeartbeats 2000000
set_option maxRecDepth 100000
open Go.RowKit Go.Proofs.YtkjdblbgmomieaaW.PrintWords Go.Proofs.YtkjdblbgmomieaaW.PrintLast Go.Proofs.YtkjdblbgmomieaaW.PrintMore Go.Proofs.Ytkjdblbgmomieaa.Str
set_option linter.unusedVariables false
set_option linter.unusedSimpArgs false
def nz (t:Int):List Int:=if t=0 then [] else [t]
theorem nz_zero:nz 0=[]:=rfl
theorem nz_some {t:Int} (h:t≠0):nz t=[t]:=if_neg h
def takesTo (i:Nat) (a b:Int):List Int:=if i=0 then [] else if i=1 then nz a else nz a++nz b
theorem takesTo0 (a b:Int):takesTo 0 a b=[]:=rfl
theorem takesTo1 (a b:Int):takesTo 1 a b=nz a:=rfl
theorem takesTo2 (a b:Int):takesTo 2 a b=nz a++nz b:=rfl
def ops_Takes.f (a0:Int):Option (List Int):=some (nz (opOf a0).t0++nz (opOf a0).t1)
theorem ops_Takes.calls (a0:Int) (r:List Int) (w:World) (h:ops_Takes.f a0=some r):
    Calls Try.prog 46 #[.int .i64 a0] w fun e w'=>∃ v0_:Value,e=.returned (v0_)∧Kd.R (Kd.int .i64) 3 w' w.heap.size (fun _=>True) v0_ r∧Below w.heap.size w w':=by
  obtain rfl:=Option.some.inj h
  clear h
  have hu85:=Try.underlying94
  have hof:=fun W=>of_calls a0 W
  have hfd:∀ (o:OpRow) (W:World),(Instr.field 96 (.agg (rowCells o).toArray) 1).run Try.prog W=.ok (.agg #[.int .i64 o.t0,.int .i64 o.t1]) W:=fun _ _=>by show _=_;kernel_rfl
  have hx0:∀ (a b:Int) (W:World),(Instr.index 94 (.agg #[.int .i64 a,.int .i64 b]) (.int .i64 ((0:Nat):Int))).run Try.prog W=.ok (.int .i64 a) W:=fun _ _ _=>by show _=_;kernel_rfl
  have hx1:∀ (a b:Int) (W:World),(Instr.index 94 (.agg #[.int .i64 a,.int .i64 b]) (.int .i64 ((1:Nat):Int))).run Try.prog W=.ok (.int .i64 b) W:=fun _ _ _=>by show _=_;kernel_rfl
  have hy0:∀ (a b:Int) (W:World),(Instr.index 94 (.agg #[.int .i64 a,.int .i64 b]) (.int .i64 0)).run Try.prog W=.ok (.int .i64 a) W:=fun _ _ _=>by show _=_;kernel_rfl
  have hy1:∀ (a b:Int) (W:World),(Instr.index 94 (.agg #[.int .i64 a,.int .i64 b]) (.int .i64 1)).run Try.prog W=.ok (.int .i64 b) W:=fun _ _ _=>by show _=_;kernel_rfl
  obtain ⟨o,ho⟩:∃ o,opOf a0=o:=⟨_,rfl⟩
  rw [ho] at hof ⊢
  clear ho
  go_enter Try.func46,Try.ntmps46
  go_wp2_with fail
  refine (hof _).mono ?_
  rintro e w0 ⟨rfl,hb⟩
  have HB0:=aM hb
  clear hb hof
  go_wp2
  go_loopg [3,9] 2 (fun kq v3 v9 w'=>∃ i:Nat,v9=.int .i64 i∧Aside0 (i≤2)∧Aside0 (Kd.R (Kd.int .i64) 3 w' w.heap.size (fun _=>True) v3 (takesTo i o.t0 o.t1))∧Aside0 (Below w.heap.size w w')∧Aside0 (kq=2 - i))
  case atStart=>exact ⟨0,rfl,⟨by omega⟩,⟨Kd.R_nil _ _ _ _ _⟩,HB0,⟨rfl⟩⟩
  case round=>
    obtain ⟨i,rfl,HI,HR,HB,HK⟩:=hrel
    have hi:=HI.out
    by_cases hi2:i<2
    · have hi3:i=0∨i=1:=by omega
      clear hi hi2
      rcases hi3 with rfl | rfl
      · rw [takesTo0] at HR
        by_cases hz:o.t0=0
        · have hzb:(o.t0 !=0)=false:=bne_eq_false_iff_eq.mpr hz
          go_wp2
          go_roundg 1
          case measure=>have:=HK.out;omega
          case rel=>
            refine ⟨1,rfl,⟨by omega⟩,?_,HB,⟨rfl⟩⟩
            rw [takesTo1,hz];exact HR
        · have hzb:(o.t0 !=0)=true:=bne_iff_ne.mpr hz
          obtain ⟨A0,q0,rfl⟩:=Kd.R_slice HR.out
          go_wp2_with (at_builtin;refine Kd.R_append (Kd.int .i64) (w0:=w) (W:=wr) w.heap.size rfl (.tmp 14) (.tmp 16) 31 3 (.int .i64 0) 8 rfl Try.underlying31 info3 rfl (by decide) (by omega) (.slice A0 ([]:List Int).length q0) ([]:List Int) o.t0 [.int .i64 o.t0] (fun _=>True) (fun _=>False) rfl rfl rfl (fun _ hk=>hk.elim) (fun _ _=>trivial) HR.out HB.out HB.out.size (by simp) ?_;intro v2 w2 ho2 hb2 hg2 hat2;have HO2:=aM ho2;have HB2:=aM hb2;clear ho2 hb2 hg2 hat2)
          go_roundg 1
          case measure=>have:=HK.out;omega
          case rel=>
            refine ⟨1,rfl,⟨by omega⟩,⟨?_⟩,HB2,⟨rfl⟩⟩
            rw [takesTo1,nz_some hz];exact HO2.out
      · rw [takesTo1] at HR
        by_cases hz:o.t1=0
        · have hzb:(o.t1 !=0)=false:=bne_eq_false_iff_eq.mpr hz
          go_wp2
          go_roundg 0
          case measure=>have:=HK.out;omega
          case rel=>
            refine ⟨2,rfl,⟨by omega⟩,?_,HB,⟨rfl⟩⟩
            rw [takesTo2,hz,nz_zero,List.append_nil];exact HR
        · have hzb:(o.t1 !=0)=true:=bne_iff_ne.mpr hz
          obtain ⟨A0,q0,rfl⟩:=Kd.R_slice HR.out
          go_wp2_with (at_builtin;refine Kd.R_append (Kd.int .i64) (w0:=w) (W:=wr) w.heap.size rfl (.tmp 14) (.tmp 16) 31 3 (.int .i64 0) 8 rfl Try.underlying31 info3 rfl (by decide) (by omega) (.slice A0 (nz o.t0).length q0) (nz o.t0) o.t1 [.int .i64 o.t1] (fun _=>True) (fun _=>False) rfl rfl rfl (fun _ hk=>hk.elim) (fun _ _=>trivial) HR.out HB.out HB.out.size (by unfold nz;split<;>simp) ?_;intro v2 w2 ho2 hb2 hg2 hat2;have HO2:=aM ho2;have HB2:=aM hb2;clear ho2 hb2 hg2 hat2)
          go_roundg 0
          case measure=>have:=HK.out;omega
          case rel=>
            refine ⟨2,rfl,⟨by omega⟩,⟨?_⟩,HB2,⟨rfl⟩⟩
            rw [takesTo2,nz_some hz];exact HO2.out
    · have hi3:i=2:=by omega
      subst hi3
      clear hi hi2
      rw [takesTo2] at HR
      go_wp2
      go_ret
      exact ⟨_,rfl,HR.out,HB.out⟩
end Go.Proofs.Ytkjdblbgmomieaa.PSh
end
-- from YtkjdblbgmomieaaHName
section
namespace Go.Proofs.Ytkjdblbgmomieaa.PSh
set_option maxHeartbeats 4000000
set_option maxRecDepth 100000
open Go.RowKit Go.Proofs.YtkjdblbgmomieaaW.PrintWords Go.Proofs.YtkjdblbgmomieaaW.PrintLast Go.Proofs.YtkjdblbgmomieaaW.PrintMore Go.Proofs.Ytkjdblbgmomieaa.Str
set_option linter.unusedVariables false
set_option linter.unusedSimpArgs false
def nameC (i:Nat) (c:UInt8):Bool:=(decide (97≤c.toNat) && decide (c.toNat≤122)) || (!decide (i=0) && (decide (c.toNat=95) || (decide (48≤c.toNat) && decide (c.toNat≤57))))
def nameFrom:Nat→List UInt8→Bool
  | _,[]=>true
  | i,c::l=>nameC i c && nameFrom (i+1) l
def nameL (l:List UInt8):Bool:=!l.isEmpty && decide (l.length≤24) && nameFrom 0 l
def token_Name.f (a0:ByteArray):Option Bool:=some (nameL a0.data.toList)
theorem nameFrom_drop (l:List UInt8) (k:Nat) (h:k<l.length):nameFrom k (l.drop k)=(nameC k (l[k]) && nameFrom (k+1) (l.drop (k+1))):=by
  rw [List.drop_eq_getElem_cons h];rfl
theorem bytes_below (w:World) (e:TypeId) (s:ByteArray):Below w.heap.size w (Lib.bytesWorld w e s):=by
  have h1:Below w.heap.size w (w.drew.alloc (.cells (Lib.bytesCells w e s) e)):=((Below.refl _ _).drew).alloc (Nat.le_refl _) _
  refine ⟨h1.os,?_,h1.output,?_,fun i hi=>Lib.bytesWorld_at_old w e s i hi⟩
  · exact h1.tape
  · rw [Lib.bytesWorld_size];omega
theorem token_Name.calls (a0:ByteArray) (r:Bool) (w:World) (h:token_Name.f a0=some r):
    Calls Try.prog 55 #[.string a0] w fun e w'=>e=.returned (.bool r)∧Below w.heap.size w w':=by
  obtain rfl:=Option.some.inj h
  clear h
  have hsl:a0.size=a0.data.toList.length:=rfl
  by_cases h0:a0.size=0
  · have hd:((a0.size:Int)==0)=true:=by rw [h0];rfl
    have hr:nameL a0.data.toList=false:=by
      have:a0.data.toList=[]:=List.length_eq_zero_iff.1 (by omega)
      rw [this];rfl
    have HR:=aM hr
    clear hr hsl h0
    go_enter Try.func55,Try.ntmps55
    go_wp2
    go_ret
    exact ⟨by rw [HR.out];rfl,Below.refl _ _⟩
  · have hd:((a0.size:Int)==0)=false:=by rw [beq_eq_false_iff_ne];omega
    by_cases h24:a0.size≤24
    case neg=>
      have hd2:decide ((24:Int)<(a0.size:Int))=true:=decide_eq_true (by omega)
      have hr:nameL a0.data.toList=false:=by
        unfold nameL
        rw [decide_eq_false (by omega),Bool.and_false,Bool.false_and]
      have HR:=aM hr
      clear hr hsl h0
      go_enter Try.func55,Try.ntmps55
      go_wp2
      go_ret
      exact ⟨by rw [HR.out];rfl,Below.refl _ _⟩
    case pos=>
      have hd2:decide ((24:Int)<(a0.size:Int))=false:=decide_eq_false (by omega)
      have hr:nameL a0.data.toList=nameFrom 0 a0.data.toList:=by
        unfold nameL
        have:a0.data.toList≠[]:=fun e=>h0 (by rw [hsl,e];rfl)
        have e1:a0.data.toList.isEmpty=false:=by simpa using this
        rw [e1,decide_eq_true (by omega)];simp
      have HR:=aM hr
      have HSL:=aM hsl
      clear hr hsl h0
      have hcv:=Lib.run_convert_string_bytes (P:=Try.prog) w 9 53 5 a0 Try.underlying9 Try.underlying53 Try.underlying5
      have hcell:∀ j:Nat,j<a0.size→(Lib.bytesWorld w 5 a0).cell? ⟨w.heap.size,j,none⟩=some (.int .u8 (a0.data.toList.getD j 0).toNat):=fun j hj=>Lib.bytesWorld_cell w _ a0 j hj
      have HC:=aM hcell
      have HB:=aM (bytes_below w 5 a0)
      clear hcell
      generalize hg:grownCap w a0.size 0 5=cap at hcv
      clear hg
      go_enter Try.func55,Try.ntmps55
      go_wp2
      go_loop [17] (fun i=>∃ k:Nat,k≤a0.size∧i=.int .i64 k∧Aside0 (nameFrom 0 a0.data.toList=nameFrom k (a0.data.toList.drop k))) (fun i=>a0.size - (intOf i).toNat)
      case atStart=>exact ⟨0,Nat.zero_le _,rfl,⟨rfl⟩⟩
      case round=>
        obtain ⟨k,hk,rfl,HN⟩:=hrel
        by_cases hlt:k<a0.size
        · have hc:=HC.out k hlt
          obtain ⟨cv,hcv2⟩:∃ cv:Nat,cv=(a0.data.toList.getD k 0).toNat:=⟨_,rfl⟩
          have hb:cv<256:=by rw [hcv2];exact UInt8.toNat_lt _
          rw [← hcv2] at hc
          have HX:=aM (show (a0.data.toList[k]'(by rw [← HSL.out];exact hlt)).toNat=cv by rw [hcv2,List.getD_eq_getElem?_getD,List.getElem?_eq_getElem (by rw [← HSL.out];exact hlt)];rfl)
          clear hcv2
          by_cases hsm:97≤cv∧cv≤122
          · obtain ⟨s1,s2⟩:=hsm
            have HE:=aM (show nameC k (a0.data.toList[k]'(by rw [← HSL.out];exact hlt))=true by unfold nameC;rw [HX.out];simp;omega)
            go_wp2
            go_round
            case rel=>exact ⟨k+1,by omega,by go_num,⟨by rw [HN.out,nameFrom_drop _ _ (by rw [← HSL.out];exact hlt),HE.out,Bool.true_and]⟩⟩
            case measure=>simp [intOf];omega
          · have hdm:(decide ((97:Int)≤(cv:Int))=false)∨(decide ((97:Int)≤(cv:Int))=true∧decide ((cv:Int)≤122)=false):=by
              by_cases e:97≤cv
              · exact .inr ⟨decide_eq_true (by omega),decide_eq_false (by omega)⟩
              · exact .inl (decide_eq_false (by omega))
            by_cases hk0:k=0
            · subst hk0
              rcases hdm with d1 | ⟨d1,d2⟩
              all_goals
                have HE:=aM (show nameC 0 (a0.data.toList[0]'(by rw [← HSL.out];exact hlt))=false by unfold nameC;rw [HX.out];simp;omega)
                go_wp2
                go_ret
                exact ⟨by rw [HR.out,HN.out,nameFrom_drop _ _ (by rw [← HSL.out];exact hlt),HE.out];rfl,HB.out⟩
            · have hk1:((k:Int)==0)=false:=by rw [beq_eq_false_iff_ne];omega
              by_cases h95:cv=95
              · subst h95
                have HE:=aM (show nameC k (a0.data.toList[k]'(by rw [← HSL.out];exact hlt))=true by unfold nameC;rw [HX.out];simp;omega)
                go_wp2
                go_round
                case rel=>exact ⟨k+1,by omega,by go_num,⟨by rw [HN.out,nameFrom_drop _ _ (by rw [← HSL.out];exact hlt),HE.out,Bool.true_and]⟩⟩
                case measure=>simp [intOf];omega
              · have h96:((cv:Int) !=95)=true:=by rw [bne_iff_ne];omega
                by_cases h48:cv<48
                · have d3:decide ((cv:Int)<48)=true:=decide_eq_true (by omega)
                  rcases hdm with d1 | ⟨d1,d2⟩
                  all_goals
                    have HE:=aM (show nameC k (a0.data.toList[k]'(by rw [← HSL.out];exact hlt))=false by unfold nameC;rw [HX.out];simp;omega)
                    go_wp2
                    go_ret
                    exact ⟨by rw [HR.out,HN.out,nameFrom_drop _ _ (by rw [← HSL.out];exact hlt),HE.out];rfl,HB.out⟩
                · have d3:decide ((cv:Int)<48)=false:=decide_eq_false (by omega)
                  by_cases h57:57<cv
                  · have d4:decide ((57:Int)<(cv:Int))=true:=decide_eq_true (by omega)
                    rcases hdm with d1 | ⟨d1,d2⟩
                    all_goals
                      have HE:=aM (show nameC k (a0.data.toList[k]'(by rw [← HSL.out];exact hlt))=false by unfold nameC;rw [HX.out];simp;omega)
                      go_wp2
                      go_ret
                      exact ⟨by rw [HR.out,HN.out,nameFrom_drop _ _ (by rw [← HSL.out];exact hlt),HE.out];rfl,HB.out⟩
                  · have d4:decide ((57:Int)<(cv:Int))=false:=decide_eq_false (by omega)
                    rcases hdm with d1 | ⟨d1,d2⟩
                    all_goals
                      have HE:=aM (show nameC k (a0.data.toList[k]'(by rw [← HSL.out];exact hlt))=true by unfold nameC;rw [HX.out];simp;omega)
                      go_wp2
                      go_round
                      case rel=>exact ⟨k+1,by omega,by go_num,⟨by rw [HN.out,nameFrom_drop _ _ (by rw [← HSL.out];exact hlt),HE.out,Bool.true_and]⟩⟩
                      case measure=>simp [intOf];omega
        · go_wp2
          go_ret
          have hkk:k=a0.size:=by omega
          subst hkk
          exact ⟨by rw [HR.out,HN.out,HSL.out,List.drop_length];rfl,HB.out⟩
end Go.Proofs.Ytkjdblbgmomieaa.PSh
end
