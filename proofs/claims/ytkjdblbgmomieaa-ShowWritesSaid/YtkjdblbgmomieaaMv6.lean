import Derived.Test.YtkjdblbgmomieaaMv2
import Derived.Test.YtkjdblbgmomieaaMv3
section
namespace Go.Proofs.Ytkjdblbgmomieaa.PSh
set_option maxHeartbeats 8000000
set_option maxRecDepth 100000
open Go.RowKit Go.Proofs.YtkjdblbgmomieaaW.PrintWords Go.Proofs.YtkjdblbgmomieaaW.PrintLast Go.Proofs.YtkjdblbgmomieaaW.PrintMore Go.Proofs.Ytkjdblbgmomieaa.Zip
attribute [local go_sem] max2_int min2_int max_two min_two max_three min_three max_four min_four   -- for this text's walks alone
set_option linter.unusedVariables false
set_option linter.unusedSimpArgs false
mutual
def r02_Name.j0:Nat→ByteArray→Bool→Option (Bool)
 | 0,_,_=>none
 | k+1,x0,x13=>if x13=true then (some false) else (r02_Name.l0 k x0 0)
def r02_Name.l0:Nat→ByteArray→Int→Option (Bool)
 | 0,_,_=>none
 | k+1,x0,x3=>if x3<(x0.size:Int) then (if 0≤x3 then (if (bt x0 x3)≥97 then (if (bt x0 x3)≥48 then (if ((bt x0 x3)≤122) then (r02_Name.l0 k x0 (wrap64 (x3+1))) else (if x3=0 then (some false) else (if ((bt x0 x3)≤57) then (r02_Name.l0 k x0 (wrap64 (x3+1))) else (if (bt x0 x3)=95 then (r02_Name.l0 k x0 (wrap64 (x3+1))) else (some false))))) else (if ((bt x0 x3)≤122) then (r02_Name.l0 k x0 (wrap64 (x3+1))) else (if x3=0 then (some false) else (if (bt x0 x3)=95 then (r02_Name.l0 k x0 (wrap64 (x3+1))) else (some false))))) else (if (bt x0 x3)≥48 then (if x3=0 then (some false) else (if ((bt x0 x3)≤57) then (r02_Name.l0 k x0 (wrap64 (x3+1))) else (if (bt x0 x3)=95 then (r02_Name.l0 k x0 (wrap64 (x3+1))) else (some false)))) else (if x3=0 then (some false) else (if (bt x0 x3)=95 then (r02_Name.l0 k x0 (wrap64 (x3+1))) else (some false))))) else (none)) else (some true)
end
def r02_Name.f (k:Nat) (a0:ByteArray):Option (Bool):=if (a0.size:Int)<1 then (r02_Name.j0 k a0 true) else (r02_Name.j0 k a0 (decide ((a0.size:Int)>24)))
theorem r02_Name.calls (k:Nat) (a0:ByteArray) (r:Bool) (w:World) (h:r02_Name.f k a0=some r):
  Calls Try.prog 24 #[.string a0] w fun e w'=>e=.returned (.bool r)∧Drawn0 w w':=by
 have H:(if (a0.size:Int)<1 then (r02_Name.j0 k a0 true) else (r02_Name.j0 k a0 (decide ((a0.size:Int)>24))))=some r:=h
 clear h
 have HC2:=aM H
 clear H
 go_enter Try.func24,Try.ntmps24
 go_upto_region 1 with (fail)
 go_cut [13] (fun v13 wc=>∃ (kq:Nat) (x13_1:Bool),v13=.bool x13_1∧Aside0 (r02_Name.j0 kq a0 x13_1=some r)∧Aside0 (kq≤k)∧Drawn0 w wc)
 case first=>
  have H:=HC2.out
  clear HC2
  by_cases c3:(a0.size:Int)<1
  ·rw [if_pos c3] at H
   have c3b0:decide ((a0.size:Int)<1)=true:=decide_eq_true c3
   clear c3
   (first | rw [c3b0] | (simp only [i64_w,i32_w];rw [c3b0]) | skip)
   have H':=aM H
   clear H
   go_wp2
   go_meet
   case rel=>exact ⟨_,(true),(by first | rfl | (simp;done) | (simp [*];done)),H',⟨by first | omega | exact Nat.le_refl _⟩,zQ⟩
  ·rw [if_neg c3] at H
   have c3b0:decide ((a0.size:Int)<1)=false:=decide_eq_false c3
   clear c3
   (first | rw [c3b0] | (simp only [i64_w,i32_w];rw [c3b0]) | skip)
   have H':=aM H
   clear H
   go_wp2
   go_meet
   case rel=>exact ⟨_,(decide ((a0.size:Int)>24)),(by first | rfl | (simp;done) | (simp [*];done)),H',⟨by first | omega | exact Nat.le_refl _⟩,zQ⟩
 case rest=>
  clear HC2
  obtain ⟨kq,x13_1,rfl,HA,HJ1,⟨mc1,rfl⟩⟩:=hcut
  cases kq with
  | zero=>exact absurd HA.out (by simp [r02_Name.j0])
  | succ kj1=>
   have H:=HA.out
   clear HA
   simp only [r02_Name.j0] at H
   by_cases c4:x13_1=true
   ·subst c4
    have H1:(some false)=some r:=by rw [if_pos rfl] at H;exact H
    clear H
    have H:=H1
    clear H1
    obtain rfl:=Option.some.inj H
    go_wp2
    go_ret
    exact ⟨by first | rfl | (simp;done) | (simp [*];done),zQ⟩
   ·replace c4:=Bool.eq_false_iff.mpr c4
    subst c4
    have H1:(r02_Name.l0 kj1 a0 0)=some r:=by rw [if_neg (show ¬ (false=true) by decide)] at H;exact H
    clear H
    have H:=H1
    clear H1
    have H':=aM H
    clear H
    go_wp2
    go_loopg [3] kj1 (fun kq v3 w'=>∃ (x3_2:Int),v3=.int .i64 x3_2∧Aside0 (r02_Name.l0 kq a0 x3_2=some r)∧Aside0 (kq≤kj1)∧Drawn0 w w')
    case atStart=>exact ⟨(0),(by first | rfl | (simp;done) | (simp [*];done)),H',⟨Nat.le_refl _⟩,zQ⟩
    case round=>
     clear H'
     obtain ⟨x3_2,rfl,HA,HK2,⟨m2,rfl⟩⟩:=hrel
     cases gk with
     | zero=>exact absurd HA.out (by simp [r02_Name.l0])
     | succ k2=>
      have H:=HA.out
      clear HA
      simp only [r02_Name.l0] at H
      by_cases c5:x3_2<(a0.size:Int)
      ·rw [if_pos c5] at H
       have c5b0:decide (x3_2<(a0.size:Int))=true:=decide_eq_true c5
       clear c5
       by_cases c6:0≤x3_2
       ·rw [if_pos c6] at H
        have c6b0:decide (0≤x3_2)=true:=decide_eq_true c6
        clear c6
        by_cases c8:(bt a0 x3_2)≥97
        ·rw [if_pos c8] at H
         have c8b0:decide (97≤(bt a0 x3_2))=true:=decide_eq_true c8
         clear c8
         by_cases c11:(bt a0 x3_2)≥48
         ·rw [if_pos c11] at H
          have c11b0:decide (48≤(bt a0 x3_2))=true:=decide_eq_true c11
          clear c11
          by_cases c13:((bt a0 x3_2)≤122)
          ·rw [if_pos c13] at H
           have c13b0:decide ((bt a0 x3_2)≤122)=true:=decide_eq_true c13
           clear c13
           have H':=aM H
           clear H
           have p7:0≤(x3_2:Int):=of_decide_eq_true zS
           have q7:x3_2<(a0.size:Int):=of_decide_eq_true zS
           have hx7:=bt_at a0 x3_2
           replace p7:=eq_true p7
           replace q7:=eq_true q7
           have p9:0≤(x3_2:Int):=of_decide_eq_true zS
           have q9:x3_2<(a0.size:Int):=of_decide_eq_true zS
           replace p9:=eq_true p9
           replace q9:=eq_true q9
           have p10:0≤(x3_2:Int):=of_decide_eq_true zS
           have q10:x3_2<(a0.size:Int):=of_decide_eq_true zS
           replace p10:=eq_true p10
           replace q10:=eq_true q10
           have p12:0≤(x3_2:Int):=of_decide_eq_true zS
           have q12:x3_2<(a0.size:Int):=of_decide_eq_true zS
           replace p12:=eq_true p12
           replace q12:=eq_true q12
           go_wp2
           go_roundg k2
           case measure=>have:=HJ1.out;have:=HK2.out;omega
           case rel=>exact ⟨(wrap64 (x3_2+1)),(by first | rfl | (simp;done) | (simp [*];done)),H',⟨by have:=HJ1.out;have:=HK2.out;omega⟩,zQ⟩
          ·rw [if_neg c13] at H
           have c13b0:decide ((bt a0 x3_2)≤122)=false:=decide_eq_false c13
           clear c13
           by_cases c14:x3_2=0
           ·rw [if_pos c14] at H
            have c14b0:(x3_2==0)=true:=beq_iff_eq.mpr c14
            clear c14
            obtain rfl:=Option.some.inj H
            have p7:0≤(x3_2:Int):=of_decide_eq_true zS
            have q7:x3_2<(a0.size:Int):=of_decide_eq_true zS
            have hx7:=bt_at a0 x3_2
            replace p7:=eq_true p7
            replace q7:=eq_true q7
            have p9:0≤(x3_2:Int):=of_decide_eq_true zS
            have q9:x3_2<(a0.size:Int):=of_decide_eq_true zS
            replace p9:=eq_true p9
            replace q9:=eq_true q9
            have p10:0≤(x3_2:Int):=of_decide_eq_true zS
            have q10:x3_2<(a0.size:Int):=of_decide_eq_true zS
            replace p10:=eq_true p10
            replace q10:=eq_true q10
            have p12:0≤(x3_2:Int):=of_decide_eq_true zS
            have q12:x3_2<(a0.size:Int):=of_decide_eq_true zS
            replace p12:=eq_true p12
            replace q12:=eq_true q12
            go_wp2
            go_ret
            exact ⟨by first | rfl | (simp;done) | (simp [*];done),zQ⟩
           ·rw [if_neg c14] at H
            have c14b0:(x3_2==0)=false:=beq_eq_false_iff_ne.mpr c14
            by_cases c15:((bt a0 x3_2)≤57)
            ·rw [if_pos c15] at H
             have c15b0:decide ((bt a0 x3_2)≤57)=true:=decide_eq_true c15
             clear c15
             have H':=aM H
             clear H
             have p7:0≤(x3_2:Int):=of_decide_eq_true zS
             have q7:x3_2<(a0.size:Int):=of_decide_eq_true zS
             have hx7:=bt_at a0 x3_2
             replace p7:=eq_true p7
             replace q7:=eq_true q7
             have p9:0≤(x3_2:Int):=of_decide_eq_true zS
             have q9:x3_2<(a0.size:Int):=of_decide_eq_true zS
             replace p9:=eq_true p9
             replace q9:=eq_true q9
             have p10:0≤(x3_2:Int):=of_decide_eq_true zS
             have q10:x3_2<(a0.size:Int):=of_decide_eq_true zS
             replace p10:=eq_true p10
             replace q10:=eq_true q10
             have p12:0≤(x3_2:Int):=of_decide_eq_true zS
             have q12:x3_2<(a0.size:Int):=of_decide_eq_true zS
             replace p12:=eq_true p12
             replace q12:=eq_true q12
             go_wp2
             go_roundg k2
             case measure=>have:=HJ1.out;have:=HK2.out;omega
             case rel=>exact ⟨(wrap64 (x3_2+1)),(by first | rfl | (simp;done) | (simp [*];done)),H',⟨by have:=HJ1.out;have:=HK2.out;omega⟩,zQ⟩
            ·rw [if_neg c15] at H
             have c15b0:decide ((bt a0 x3_2)≤57)=false:=decide_eq_false c15
             clear c15
             by_cases c17:(bt a0 x3_2)=95
             ·rw [if_pos c17] at H
              have c17b1:((bt a0 x3_2) !=95)=false:=bne_eq_false_iff_eq.mpr c17
              clear c17
              have H':=aM H
              clear H
              have p7:0≤(x3_2:Int):=of_decide_eq_true zS
              have q7:x3_2<(a0.size:Int):=of_decide_eq_true zS
              have hx7:=bt_at a0 x3_2
              replace p7:=eq_true p7
              replace q7:=eq_true q7
              have p9:0≤(x3_2:Int):=of_decide_eq_true zS
              have q9:x3_2<(a0.size:Int):=of_decide_eq_true zS
              replace p9:=eq_true p9
              replace q9:=eq_true q9
              have p10:0≤(x3_2:Int):=of_decide_eq_true zS
              have q10:x3_2<(a0.size:Int):=of_decide_eq_true zS
              replace p10:=eq_true p10
              replace q10:=eq_true q10
              have p12:0≤(x3_2:Int):=of_decide_eq_true zS
              have q12:x3_2<(a0.size:Int):=of_decide_eq_true zS
              replace p12:=eq_true p12
              replace q12:=eq_true q12
              have p16:0≤(x3_2:Int):=of_decide_eq_true zS
              have q16:x3_2<(a0.size:Int):=of_decide_eq_true zS
              replace p16:=eq_true p16
              replace q16:=eq_true q16
              go_wp2
              go_roundg k2
              case measure=>have:=HJ1.out;have:=HK2.out;omega
              case rel=>exact ⟨(wrap64 (x3_2+1)),(by first | rfl | (simp;done) | (simp [*];done)),H',⟨by have:=HJ1.out;have:=HK2.out;omega⟩,zQ⟩
             ·rw [if_neg c17] at H
              have c17b1:((bt a0 x3_2) !=95)=true:=bne_iff_ne.mpr c17
              obtain rfl:=Option.some.inj H
              have p7:0≤(x3_2:Int):=of_decide_eq_true zS
              have q7:x3_2<(a0.size:Int):=of_decide_eq_true zS
              have hx7:=bt_at a0 x3_2
              replace p7:=eq_true p7
              replace q7:=eq_true q7
              have p9:0≤(x3_2:Int):=of_decide_eq_true zS
              have q9:x3_2<(a0.size:Int):=of_decide_eq_true zS
              replace p9:=eq_true p9
              replace q9:=eq_true q9
              have p10:0≤(x3_2:Int):=of_decide_eq_true zS
              have q10:x3_2<(a0.size:Int):=of_decide_eq_true zS
              replace p10:=eq_true p10
              replace q10:=eq_true q10
              have p12:0≤(x3_2:Int):=of_decide_eq_true zS
              have q12:x3_2<(a0.size:Int):=of_decide_eq_true zS
              replace p12:=eq_true p12
              replace q12:=eq_true q12
              have p16:0≤(x3_2:Int):=of_decide_eq_true zS
              have q16:x3_2<(a0.size:Int):=of_decide_eq_true zS
              replace p16:=eq_true p16
              replace q16:=eq_true q16
              go_wp2
              go_ret
              exact ⟨by first | rfl | (simp;done) | (simp [*];done),zQ⟩
         ·rw [if_neg c11] at H
          have c11b0:decide (48≤(bt a0 x3_2))=false:=decide_eq_false c11
          clear c11
          by_cases c18:((bt a0 x3_2)≤122)
          ·rw [if_pos c18] at H
           have c18b0:decide ((bt a0 x3_2)≤122)=true:=decide_eq_true c18
           clear c18
           have H':=aM H
           clear H
           have p7:0≤(x3_2:Int):=of_decide_eq_true zS
           have q7:x3_2<(a0.size:Int):=of_decide_eq_true zS
           have hx7:=bt_at a0 x3_2
           replace p7:=eq_true p7
           replace q7:=eq_true q7
           have p9:0≤(x3_2:Int):=of_decide_eq_true zS
           have q9:x3_2<(a0.size:Int):=of_decide_eq_true zS
           replace p9:=eq_true p9
           replace q9:=eq_true q9
           have p10:0≤(x3_2:Int):=of_decide_eq_true zS
           have q10:x3_2<(a0.size:Int):=of_decide_eq_true zS
           replace p10:=eq_true p10
           replace q10:=eq_true q10
           go_wp2
           go_roundg k2
           case measure=>have:=HJ1.out;have:=HK2.out;omega
           case rel=>exact ⟨(wrap64 (x3_2+1)),(by first | rfl | (simp;done) | (simp [*];done)),H',⟨by have:=HJ1.out;have:=HK2.out;omega⟩,zQ⟩
          ·rw [if_neg c18] at H
           have c18b0:decide ((bt a0 x3_2)≤122)=false:=decide_eq_false c18
           clear c18
           by_cases c19:x3_2=0
           ·rw [if_pos c19] at H
            have c19b0:(x3_2==0)=true:=beq_iff_eq.mpr c19
            clear c19
            obtain rfl:=Option.some.inj H
            have p7:0≤(x3_2:Int):=of_decide_eq_true zS
            have q7:x3_2<(a0.size:Int):=of_decide_eq_true zS
            have hx7:=bt_at a0 x3_2
            replace p7:=eq_true p7
            replace q7:=eq_true q7
            have p9:0≤(x3_2:Int):=of_decide_eq_true zS
            have q9:x3_2<(a0.size:Int):=of_decide_eq_true zS
            replace p9:=eq_true p9
            replace q9:=eq_true q9
            have p10:0≤(x3_2:Int):=of_decide_eq_true zS
            have q10:x3_2<(a0.size:Int):=of_decide_eq_true zS
            replace p10:=eq_true p10
            replace q10:=eq_true q10
            go_wp2
            go_ret
            exact ⟨by first | rfl | (simp;done) | (simp [*];done),zQ⟩
           ·rw [if_neg c19] at H
            have c19b0:(x3_2==0)=false:=beq_eq_false_iff_ne.mpr c19
            by_cases c21:(bt a0 x3_2)=95
            ·rw [if_pos c21] at H
             have c21b1:((bt a0 x3_2) !=95)=false:=bne_eq_false_iff_eq.mpr c21
             clear c21
             have H':=aM H
             clear H
             have p7:0≤(x3_2:Int):=of_decide_eq_true zS
             have q7:x3_2<(a0.size:Int):=of_decide_eq_true zS
             have hx7:=bt_at a0 x3_2
             replace p7:=eq_true p7
             replace q7:=eq_true q7
             have p9:0≤(x3_2:Int):=of_decide_eq_true zS
             have q9:x3_2<(a0.size:Int):=of_decide_eq_true zS
             replace p9:=eq_true p9
             replace q9:=eq_true q9
             have p10:0≤(x3_2:Int):=of_decide_eq_true zS
             have q10:x3_2<(a0.size:Int):=of_decide_eq_true zS
             replace p10:=eq_true p10
             replace q10:=eq_true q10
             have p20:0≤(x3_2:Int):=of_decide_eq_true zS
             have q20:x3_2<(a0.size:Int):=of_decide_eq_true zS
             replace p20:=eq_true p20
             replace q20:=eq_true q20
             go_wp2
             go_roundg k2
             case measure=>have:=HJ1.out;have:=HK2.out;omega
             case rel=>exact ⟨(wrap64 (x3_2+1)),(by first | rfl | (simp;done) | (simp [*];done)),H',⟨by have:=HJ1.out;have:=HK2.out;omega⟩,zQ⟩
            ·rw [if_neg c21] at H
             have c21b1:((bt a0 x3_2) !=95)=true:=bne_iff_ne.mpr c21
             obtain rfl:=Option.some.inj H
             have p7:0≤(x3_2:Int):=of_decide_eq_true zS
             have q7:x3_2<(a0.size:Int):=of_decide_eq_true zS
             have hx7:=bt_at a0 x3_2
             replace p7:=eq_true p7
             replace q7:=eq_true q7
             have p9:0≤(x3_2:Int):=of_decide_eq_true zS
             have q9:x3_2<(a0.size:Int):=of_decide_eq_true zS
             replace p9:=eq_true p9
             replace q9:=eq_true q9
             have p10:0≤(x3_2:Int):=of_decide_eq_true zS
             have q10:x3_2<(a0.size:Int):=of_decide_eq_true zS
             replace p10:=eq_true p10
             replace q10:=eq_true q10
             have p20:0≤(x3_2:Int):=of_decide_eq_true zS
             have q20:x3_2<(a0.size:Int):=of_decide_eq_true zS
             replace p20:=eq_true p20
             replace q20:=eq_true q20
             go_wp2
             go_ret
             exact ⟨by first | rfl | (simp;done) | (simp [*];done),zQ⟩
        ·rw [if_neg c8] at H
         have c8b0:decide (97≤(bt a0 x3_2))=false:=decide_eq_false c8
         clear c8
         by_cases c23:(bt a0 x3_2)≥48
         ·rw [if_pos c23] at H
          have c23b0:decide (48≤(bt a0 x3_2))=true:=decide_eq_true c23
          clear c23
          by_cases c25:x3_2=0
          ·rw [if_pos c25] at H
           have c25b0:(x3_2==0)=true:=beq_iff_eq.mpr c25
           clear c25
           obtain rfl:=Option.some.inj H
           have p7:0≤(x3_2:Int):=of_decide_eq_true zS
           have q7:x3_2<(a0.size:Int):=of_decide_eq_true zS
           have hx7:=bt_at a0 x3_2
           replace p7:=eq_true p7
           replace q7:=eq_true q7
           have p22:0≤(x3_2:Int):=of_decide_eq_true zS
           have q22:x3_2<(a0.size:Int):=of_decide_eq_true zS
           replace p22:=eq_true p22
           replace q22:=eq_true q22
           have p24:0≤(x3_2:Int):=of_decide_eq_true zS
           have q24:x3_2<(a0.size:Int):=of_decide_eq_true zS
           replace p24:=eq_true p24
           replace q24:=eq_true q24
           go_wp2
           go_ret
           exact ⟨by first | rfl | (simp;done) | (simp [*];done),zQ⟩
          ·rw [if_neg c25] at H
           have c25b0:(x3_2==0)=false:=beq_eq_false_iff_ne.mpr c25
           by_cases c26:((bt a0 x3_2)≤57)
           ·rw [if_pos c26] at H
            have c26b0:decide ((bt a0 x3_2)≤57)=true:=decide_eq_true c26
            clear c26
            have H':=aM H
            clear H
            have p7:0≤(x3_2:Int):=of_decide_eq_true zS
            have q7:x3_2<(a0.size:Int):=of_decide_eq_true zS
            have hx7:=bt_at a0 x3_2
            replace p7:=eq_true p7
            replace q7:=eq_true q7
            have p22:0≤(x3_2:Int):=of_decide_eq_true zS
            have q22:x3_2<(a0.size:Int):=of_decide_eq_true zS
            replace p22:=eq_true p22
            replace q22:=eq_true q22
            have p24:0≤(x3_2:Int):=of_decide_eq_true zS
            have q24:x3_2<(a0.size:Int):=of_decide_eq_true zS
            replace p24:=eq_true p24
            replace q24:=eq_true q24
            go_wp2
            go_roundg k2
            case measure=>have:=HJ1.out;have:=HK2.out;omega
            case rel=>exact ⟨(wrap64 (x3_2+1)),(by first | rfl | (simp;done) | (simp [*];done)),H',⟨by have:=HJ1.out;have:=HK2.out;omega⟩,zQ⟩
           ·rw [if_neg c26] at H
            have c26b0:decide ((bt a0 x3_2)≤57)=false:=decide_eq_false c26
            clear c26
            by_cases c28:(bt a0 x3_2)=95
            ·rw [if_pos c28] at H
             have c28b1:((bt a0 x3_2) !=95)=false:=bne_eq_false_iff_eq.mpr c28
             clear c28
             have H':=aM H
             clear H
             have p7:0≤(x3_2:Int):=of_decide_eq_true zS
             have q7:x3_2<(a0.size:Int):=of_decide_eq_true zS
             have hx7:=bt_at a0 x3_2
             replace p7:=eq_true p7
             replace q7:=eq_true q7
             have p22:0≤(x3_2:Int):=of_decide_eq_true zS
             have q22:x3_2<(a0.size:Int):=of_decide_eq_true zS
             replace p22:=eq_true p22
             replace q22:=eq_true q22
             have p24:0≤(x3_2:Int):=of_decide_eq_true zS
             have q24:x3_2<(a0.size:Int):=of_decide_eq_true zS
             replace p24:=eq_true p24
             replace q24:=eq_true q24
             have p27:0≤(x3_2:Int):=of_decide_eq_true zS
             have q27:x3_2<(a0.size:Int):=of_decide_eq_true zS
             replace p27:=eq_true p27
             replace q27:=eq_true q27
             go_wp2
             go_roundg k2
             case measure=>have:=HJ1.out;have:=HK2.out;omega
             case rel=>exact ⟨(wrap64 (x3_2+1)),(by first | rfl | (simp;done) | (simp [*];done)),H',⟨by have:=HJ1.out;have:=HK2.out;omega⟩,zQ⟩
            ·rw [if_neg c28] at H
             have c28b1:((bt a0 x3_2) !=95)=true:=bne_iff_ne.mpr c28
             obtain rfl:=Option.some.inj H
             have p7:0≤(x3_2:Int):=of_decide_eq_true zS
             have q7:x3_2<(a0.size:Int):=of_decide_eq_true zS
             have hx7:=bt_at a0 x3_2
             replace p7:=eq_true p7
             replace q7:=eq_true q7
             have p22:0≤(x3_2:Int):=of_decide_eq_true zS
             have q22:x3_2<(a0.size:Int):=of_decide_eq_true zS
             replace p22:=eq_true p22
             replace q22:=eq_true q22
             have p24:0≤(x3_2:Int):=of_decide_eq_true zS
             have q24:x3_2<(a0.size:Int):=of_decide_eq_true zS
             replace p24:=eq_true p24
             replace q24:=eq_true q24
             have p27:0≤(x3_2:Int):=of_decide_eq_true zS
             have q27:x3_2<(a0.size:Int):=of_decide_eq_true zS
             replace p27:=eq_true p27
             replace q27:=eq_true q27
             go_wp2
             go_ret
             exact ⟨by first | rfl | (simp;done) | (simp [*];done),zQ⟩
         ·rw [if_neg c23] at H
          have c23b0:decide (48≤(bt a0 x3_2))=false:=decide_eq_false c23
          clear c23
          by_cases c29:x3_2=0
          ·rw [if_pos c29] at H
           have c29b0:(x3_2==0)=true:=beq_iff_eq.mpr c29
           clear c29
           obtain rfl:=Option.some.inj H
           have p7:0≤(x3_2:Int):=of_decide_eq_true zS
           have q7:x3_2<(a0.size:Int):=of_decide_eq_true zS
           have hx7:=bt_at a0 x3_2
           replace p7:=eq_true p7
           replace q7:=eq_true q7
           have p22:0≤(x3_2:Int):=of_decide_eq_true zS
           have q22:x3_2<(a0.size:Int):=of_decide_eq_true zS
           replace p22:=eq_true p22
           replace q22:=eq_true q22
           go_wp2
           go_ret
           exact ⟨by first | rfl | (simp;done) | (simp [*];done),zQ⟩
          ·rw [if_neg c29] at H
           have c29b0:(x3_2==0)=false:=beq_eq_false_iff_ne.mpr c29
           by_cases c31:(bt a0 x3_2)=95
           ·rw [if_pos c31] at H
            have c31b1:((bt a0 x3_2) !=95)=false:=bne_eq_false_iff_eq.mpr c31
            clear c31
            have H':=aM H
            clear H
            have p7:0≤(x3_2:Int):=of_decide_eq_true zS
            have q7:x3_2<(a0.size:Int):=of_decide_eq_true zS
            have hx7:=bt_at a0 x3_2
            replace p7:=eq_true p7
            replace q7:=eq_true q7
            have p22:0≤(x3_2:Int):=of_decide_eq_true zS
            have q22:x3_2<(a0.size:Int):=of_decide_eq_true zS
            replace p22:=eq_true p22
            replace q22:=eq_true q22
            have p30:0≤(x3_2:Int):=of_decide_eq_true zS
            have q30:x3_2<(a0.size:Int):=of_decide_eq_true zS
            replace p30:=eq_true p30
            replace q30:=eq_true q30
            go_wp2
            go_roundg k2
            case measure=>have:=HJ1.out;have:=HK2.out;omega
            case rel=>exact ⟨(wrap64 (x3_2+1)),(by first | rfl | (simp;done) | (simp [*];done)),H',⟨by have:=HJ1.out;have:=HK2.out;omega⟩,zQ⟩
           ·rw [if_neg c31] at H
            have c31b1:((bt a0 x3_2) !=95)=true:=bne_iff_ne.mpr c31
            obtain rfl:=Option.some.inj H
            have p7:0≤(x3_2:Int):=of_decide_eq_true zS
            have q7:x3_2<(a0.size:Int):=of_decide_eq_true zS
            have hx7:=bt_at a0 x3_2
            replace p7:=eq_true p7
            replace q7:=eq_true q7
            have p22:0≤(x3_2:Int):=of_decide_eq_true zS
            have q22:x3_2<(a0.size:Int):=of_decide_eq_true zS
            replace p22:=eq_true p22
            replace q22:=eq_true q22
            have p30:0≤(x3_2:Int):=of_decide_eq_true zS
            have q30:x3_2<(a0.size:Int):=of_decide_eq_true zS
            replace p30:=eq_true p30
            replace q30:=eq_true q30
            go_wp2
            go_ret
            exact ⟨by first | rfl | (simp;done) | (simp [*];done),zQ⟩
       ·rw [if_neg c6] at H
        exact absurd H (by simp)
      ·rw [if_neg c5] at H
       have c5b0:decide (x3_2<(a0.size:Int))=false:=decide_eq_false c5
       clear c5
       obtain rfl:=Option.some.inj H
       go_wp2
       go_ret
       exact ⟨by first | rfl | (simp;done) | (simp [*];done),zQ⟩
def r05_typed.f (a0:Int):Option (Bool):=if a0=20 then (some true) else (if a0=21 then (some true) else (some (a0==24)))
theorem r05_typed.calls (a0:Int) (r:Bool) (w:World) (h:r05_typed.f a0=some r):
  Calls Try.prog 63 #[.int .i64 a0] w fun e w'=>e=.returned (.bool r)∧Drawn0 w w':=by
 have H:(if a0=20 then (some true) else (if a0=21 then (some true) else (some (a0==24))))=some r:=h
 clear h
 by_cases c2:a0=20
 ·rw [if_pos c2] at H
  have c2b0:(a0==20)=true:=beq_iff_eq.mpr c2
  clear c2
  obtain rfl:=Option.some.inj H
  go_enter Try.func63,Try.ntmps63
  go_wp2
  go_ret
  exact ⟨by first | rfl | (simp;done) | (simp [*];done),zQ⟩
 ·rw [if_neg c2] at H
  have c2b0:(a0==20)=false:=beq_eq_false_iff_ne.mpr c2
  by_cases c3:a0=21
  ·rw [if_pos c3] at H
   have c3b0:(a0==21)=true:=beq_iff_eq.mpr c3
   clear c3
   obtain rfl:=Option.some.inj H
   go_enter Try.func63,Try.ntmps63
   go_wp2
   go_ret
   exact ⟨by first | rfl | (simp;done) | (simp [*];done),zQ⟩
  ·rw [if_neg c3] at H
   have c3b0:(a0==21)=false:=beq_eq_false_iff_ne.mpr c3
   obtain rfl:=Option.some.inj H
   go_enter Try.func63,Try.ntmps63
   go_wp2
   go_ret
   exact ⟨by first | rfl | (simp;done) | (simp [*];done),zQ⟩
mutual
def r05_Makes.j0:Nat→Int→Bool→Option (Int)
 | 0,_,_=>none
 | k+1,x9,x10=>if x10=true then (some 1) else (if x9=8 then (r05_Makes.j1 k x9 (x9==8)) else (if x9=10 then (r05_Makes.j1 k x9 (x9==10)) else (if x9=12 then (r05_Makes.j1 k x9 (x9==12)) else (r05_Makes.j1 k x9 (x9==17)))))
def r05_Makes.j1:Nat→Int→Bool→Option (Int)
 | 0,_,_=>none
 | k+1,x9,x21=>if x21=true then (some 2) else (if x9=15 then (some 3) else (some 0))
end
def r05_Makes.f (k:Nat) (a0_0:Int) (a0_1:Int) (a0_2:Int) (a0_3:Int) (l0_4:List Int) (l0_5:List Int) (a0_6:ByteArray) (a0_7:Int):Option (Int):=(r05_typed.f a0_0).bind fun t111=>(if t111=true then (some a0_3) else (if a0_0=1 then (r05_Makes.j0 k a0_0 (a0_0==1)) else (if a0_0=2 then (r05_Makes.j0 k a0_0 (a0_0==2)) else (if a0_0=3 then (r05_Makes.j0 k a0_0 (a0_0==3)) else (if a0_0=4 then (r05_Makes.j0 k a0_0 (a0_0==4)) else (if a0_0=5 then (r05_Makes.j0 k a0_0 (a0_0==5)) else (if a0_0=6 then (r05_Makes.j0 k a0_0 (a0_0==6)) else (if a0_0=7 then (r05_Makes.j0 k a0_0 (a0_0==7)) else (if a0_0=9 then (r05_Makes.j0 k a0_0 (a0_0==9)) else (if a0_0=11 then (r05_Makes.j0 k a0_0 (a0_0==11)) else (r05_Makes.j0 k a0_0 (a0_0==16))))))))))))
theorem r05_Makes.mono_l:∀ k,(∀ y0 y1,LeO (r05_Makes.j0 k y0 y1) (r05_Makes.j0 (k+1) y0 y1))∧(∀ y0 y1,LeO (r05_Makes.j1 k y0 y1) (r05_Makes.j1 (k+1) y0 y1))
 | 0=>⟨fun _ _ r h=>by simp [r05_Makes.j0] at h,fun _ _ r h=>by simp [r05_Makes.j1] at h⟩
 | k+1=>by
  obtain ⟨ih0,ih1⟩:=r05_Makes.mono_l k
  refine ⟨?_,?_⟩
  ·intro y0 y1
   unfold r05_Makes.j0
   repeat' first
   | (with_reducible exact ih0 _ _)
   | (with_reducible exact ih1 _ _)
   | (with_reducible exact LeO.refl _)
   | (with_reducible exact LeO.none _)
   | (with_reducible refine LeO.ite ?_ ?_)
   | (with_reducible refine LeO.bind ?_ (fun _=>?_))
   | exact ih0 _ _
   | exact ih1 _ _
   | exact LeO.none _
   | refine LeO.ite ?_ ?_
   | refine LeO.bind ?_ (fun _=>?_)
  ·intro y0 y1
   unfold r05_Makes.j1
   repeat' first
   | (with_reducible exact ih0 _ _)
   | (with_reducible exact ih1 _ _)
   | (with_reducible exact LeO.refl _)
   | (with_reducible exact LeO.none _)
   | (with_reducible refine LeO.ite ?_ ?_)
   | (with_reducible refine LeO.bind ?_ (fun _=>?_))
   | exact ih0 _ _
   | exact ih1 _ _
   | exact LeO.none _
   | refine LeO.ite ?_ ?_
   | refine LeO.bind ?_ (fun _=>?_)
theorem r05_Makes.mono:∀ a0 a1 a2 a3 a4 a5 a6 a7 k,LeO (r05_Makes.f k a0 a1 a2 a3 a4 a5 a6 a7) (r05_Makes.f (k+1) a0 a1 a2 a3 a4 a5 a6 a7):=by
 intro a0 a1 a2 a3 a4 a5 a6 a7 k
 obtain ⟨ih0,ih1⟩:=r05_Makes.mono_l k
 unfold r05_Makes.f
 repeat' first
   | (with_reducible exact ih0 _ _)
   | (with_reducible exact ih1 _ _)
   | (with_reducible exact LeO.refl _)
   | (with_reducible exact LeO.none _)
   | (with_reducible refine LeO.ite ?_ ?_)
   | (with_reducible refine LeO.bind ?_ (fun _=>?_))
   | exact ih0 _ _
   | exact ih1 _ _
   | exact LeO.none _
   | refine LeO.ite ?_ ?_
   | refine LeO.bind ?_ (fun _=>?_)
theorem r05_Makes.calls (k:Nat) (a0_0:Int) (a0_1:Int) (a0_2:Int) (a0_3:Int) (A0_4:Option Addr) (c0_4:Nat) (l0_4:List Int) (A0_5:Option Addr) (c0_5:Nat) (l0_5:List Int) (a0_6:ByteArray) (a0_7:Int) (r:Int) (w:World) (hr0_4:Kd.C (Kd.int .i64) w A0_4 l0_4.length l0_4) (hc0_4:l0_4.length≤c0_4) (hr0_5:Kd.C (Kd.int .i64) w A0_5 l0_5.length l0_5) (hc0_5:l0_5.length≤c0_5) (h:r05_Makes.f k a0_0 a0_1 a0_2 a0_3 l0_4 l0_5 a0_6 a0_7=some r):
  Calls Try.prog 25 #[.agg #[.int .i64 a0_0,.int .i64 a0_1,.int .i64 a0_2,.int .i64 a0_3,.slice A0_4 l0_4.length c0_4,.slice A0_5 l0_5.length c0_5,.string a0_6,.int .i64 a0_7]] w fun e w'=>e=.returned (.int .i64 r)∧Below w.heap.size w w':=by
 clear hr0_4 hc0_4 hr0_5 hc0_5
 have HB:=aM (Below.refl w.heap.size w)
 have H:((r05_typed.f a0_0).bind fun t111=>(if t111=true then (some a0_3) else (if a0_0=1 then (r05_Makes.j0 k a0_0 (a0_0==1)) else (if a0_0=2 then (r05_Makes.j0 k a0_0 (a0_0==2)) else (if a0_0=3 then (r05_Makes.j0 k a0_0 (a0_0==3)) else (if a0_0=4 then (r05_Makes.j0 k a0_0 (a0_0==4)) else (if a0_0=5 then (r05_Makes.j0 k a0_0 (a0_0==5)) else (if a0_0=6 then (r05_Makes.j0 k a0_0 (a0_0==6)) else (if a0_0=7 then (r05_Makes.j0 k a0_0 (a0_0==7)) else (if a0_0=9 then (r05_Makes.j0 k a0_0 (a0_0==9)) else (if a0_0=11 then (r05_Makes.j0 k a0_0 (a0_0==11)) else (r05_Makes.j0 k a0_0 (a0_0==16)))))))))))))=some r:=h
 clear h
 replace H:=Option.bind_eq_some_iff.mp H
 obtain ⟨t111,A20,H⟩:=H
 have A2:=aM A20
 clear A20
 by_cases c3:t111=true
 ·subst c3
  have H1:(some a0_3)=some r:=by rw [if_pos rfl] at H;exact H
  clear H
  have H:=H1
  clear H1
  obtain rfl:=Option.some.inj H
  go_enter Try.func25,Try.ntmps25
  go_wp2_with (first | ((with_reducible refine gate_dst (N:=1) rfl ?_);refine box_event ?hg (N:=1) ?hd (cs:=#[.int .i64 a0_0,.int .i64 a0_1,.int .i64 a0_2,.int .i64 a0_3,.slice A0_4 l0_4.length c0_4,.slice A0_5 l0_5.length c0_5,.string a0_6,.int .i64 a0_7]) (t:=39) ?hr ?_;(case hd=>rfl);(case hg=>rfl);(case hr=>first | (go_simp;done) | (go_simp;rfl));intro gb110 hg w4 hbox hb;have n0_:=aM (below_step (zB HB.out) hb);have n1_:=aM (hbox);have n2_:=aM ((by rw [hg];exact (below_size (zB HB.out)):w.heap.size≤gb110));have n3_:=aM ((by rw [hg];exact (below_size (zB HB.out)):w.heap.size≤gb110));clear HB;have HB:=n0_;have BK110:=n1_;have GE110:=n3_;clear n0_ n1_ n2_ n3_;clear hb hbox hg;have hcz5_0:w4.cell? ⟨gb110,0,none⟩=some (.int .i64 a0_0):=(blk_cell BK110.out 0).trans rfl;have hcz5_3:w4.cell? ⟨gb110,3,none⟩=some (.int .i64 a0_3):=(blk_cell BK110.out 3).trans rfl) | ((with_reducible refine gate_callee (f:=63) rfl ?_);refine goesL_ (some 5) rfl rfl Try.func63 (by kernel_rfl) rfl #[.int .i64 a0_0] rfl zA ?_;(with_reducible refine (r05_typed.calls a0_0 true _ A2.out).mono ?_);rintro e w' ⟨rfl,⟨nd,rfl⟩⟩;refine ⟨_,rfl,?_⟩))
  go_ret
  exact ⟨zF,zC HB.out GE110.out⟩
 ·replace c3:=Bool.eq_false_iff.mpr c3
  subst c3
  have H1:(if a0_0=1 then (r05_Makes.j0 k a0_0 (a0_0==1)) else (if a0_0=2 then (r05_Makes.j0 k a0_0 (a0_0==2)) else (if a0_0=3 then (r05_Makes.j0 k a0_0 (a0_0==3)) else (if a0_0=4 then (r05_Makes.j0 k a0_0 (a0_0==4)) else (if a0_0=5 then (r05_Makes.j0 k a0_0 (a0_0==5)) else (if a0_0=6 then (r05_Makes.j0 k a0_0 (a0_0==6)) else (if a0_0=7 then (r05_Makes.j0 k a0_0 (a0_0==7)) else (if a0_0=9 then (r05_Makes.j0 k a0_0 (a0_0==9)) else (if a0_0=11 then (r05_Makes.j0 k a0_0 (a0_0==11)) else (r05_Makes.j0 k a0_0 (a0_0==16)))))))))))=some r:=by rw [if_neg (show ¬ (false=true) by decide)] at H;exact H
  clear H
  have H:=H1
  clear H1
  have HC6:=aM H
  clear H
  go_enter Try.func25,Try.ntmps25
  go_upto_if 10 with (first | ((with_reducible refine gate_dst (N:=1) rfl ?_);refine box_event ?hg (N:=1) ?hd (cs:=#[.int .i64 a0_0,.int .i64 a0_1,.int .i64 a0_2,.int .i64 a0_3,.slice A0_4 l0_4.length c0_4,.slice A0_5 l0_5.length c0_5,.string a0_6,.int .i64 a0_7]) (t:=39) ?hr ?_;(case hd=>rfl);(case hg=>rfl);(case hr=>first | (go_simp;done) | (go_simp;rfl));intro gb110 hg w7 hbox hb;have n0_:=aM (below_step (zB HB.out) hb);have n1_:=aM (hbox);have n2_:=aM ((by rw [hg];exact (below_size (zB HB.out)):w.heap.size≤gb110));have n3_:=aM ((by rw [hg];exact (below_size (zB HB.out)):w.heap.size≤gb110));clear HB;have HB:=n0_;have BK110:=n1_;have GE110:=n3_;clear n0_ n1_ n2_ n3_;clear hb hbox hg;have hcz8_0:w7.cell? ⟨gb110,0,none⟩=some (.int .i64 a0_0):=(blk_cell BK110.out 0).trans rfl) | ((with_reducible refine gate_callee (f:=63) rfl ?_);refine goesL_ (some 5) rfl rfl Try.func63 (by kernel_rfl) rfl #[.int .i64 a0_0] rfl zA ?_;(with_reducible refine (r05_typed.calls a0_0 false _ A2.out).mono ?_);rintro e w' ⟨rfl,⟨nd,rfl⟩⟩;refine ⟨_,rfl,?_⟩))
  (try simp only [Act.put,qA,qB,qC])
  go_cut [10] (fun v10 wc=>∃ (kq:Nat) (x10_5:Bool),v10=.bool x10_5∧Aside0 (r05_Makes.j0 kq a0_0 x10_5=some r)∧Aside0 (kq≤k)∧Aside0 (wc.heap[gb110]?=some (.cells #[.int .i64 a0_0,.int .i64 a0_1,.int .i64 a0_2,.int .i64 a0_3,(.slice A0_4 l0_4.length c0_4),(.slice A0_5 l0_5.length c0_5),.string a0_6,.int .i64 a0_7] 39 (0,0)))∧Aside0 (Below w.heap.size w wc))
  case first=>
   have H:=HC6.out
   clear HC6
   by_cases c9:a0_0=1
   ·rw [if_pos c9] at H
    have c9b0:(a0_0==1)=true:=beq_iff_eq.mpr c9
    clear c9
    (first | rw [c9b0] | (simp only [i64_w,i32_w];rw [c9b0]) | skip)
    have H':=aM H
    clear H
    go_wp2
    go_meet
    case rel=>exact ⟨_,((a0_0==1)),(by first | rfl | (simp;done) | (simp [*];done)),H',⟨by first | omega | exact Nat.le_refl _⟩,⟨zK BK110.out⟩,⟨zC HB.out GE110.out⟩⟩
   ·rw [if_neg c9] at H
    have c9b0:(a0_0==1)=false:=beq_eq_false_iff_ne.mpr c9
    (first | rw [c9b0] | (simp only [i64_w,i32_w];rw [c9b0]) | skip)
    by_cases c10:a0_0=2
    ·rw [if_pos c10] at H
     have c10b0:(a0_0==2)=true:=beq_iff_eq.mpr c10
     clear c10
     have H':=aM H
     clear H
     go_wp2
     go_meet
     case rel=>exact ⟨_,((a0_0==2)),(by first | rfl | (simp;done) | (simp [*];done)),H',⟨by first | omega | exact Nat.le_refl _⟩,⟨zK BK110.out⟩,⟨zC HB.out GE110.out⟩⟩
    ·rw [if_neg c10] at H
     have c10b0:(a0_0==2)=false:=beq_eq_false_iff_ne.mpr c10
     by_cases c11:a0_0=3
     ·rw [if_pos c11] at H
      have c11b0:(a0_0==3)=true:=beq_iff_eq.mpr c11
      clear c11
      have H':=aM H
      clear H
      go_wp2
      go_meet
      case rel=>exact ⟨_,((a0_0==3)),(by first | rfl | (simp;done) | (simp [*];done)),H',⟨by first | omega | exact Nat.le_refl _⟩,⟨zK BK110.out⟩,⟨zC HB.out GE110.out⟩⟩
     ·rw [if_neg c11] at H
      have c11b0:(a0_0==3)=false:=beq_eq_false_iff_ne.mpr c11
      by_cases c12:a0_0=4
      ·rw [if_pos c12] at H
       have c12b0:(a0_0==4)=true:=beq_iff_eq.mpr c12
       clear c12
       have H':=aM H
       clear H
       go_wp2
       go_meet
       case rel=>exact ⟨_,((a0_0==4)),(by first | rfl | (simp;done) | (simp [*];done)),H',⟨by first | omega | exact Nat.le_refl _⟩,⟨zK BK110.out⟩,⟨zC HB.out GE110.out⟩⟩
      ·rw [if_neg c12] at H
       have c12b0:(a0_0==4)=false:=beq_eq_false_iff_ne.mpr c12
       by_cases c13:a0_0=5
       ·rw [if_pos c13] at H
        have c13b0:(a0_0==5)=true:=beq_iff_eq.mpr c13
        clear c13
        have H':=aM H
        clear H
        go_wp2
        go_meet
        case rel=>exact ⟨_,((a0_0==5)),(by first | rfl | (simp;done) | (simp [*];done)),H',⟨by first | omega | exact Nat.le_refl _⟩,⟨zK BK110.out⟩,⟨zC HB.out GE110.out⟩⟩
       ·rw [if_neg c13] at H
        have c13b0:(a0_0==5)=false:=beq_eq_false_iff_ne.mpr c13
        by_cases c14:a0_0=6
        ·rw [if_pos c14] at H
         have c14b0:(a0_0==6)=true:=beq_iff_eq.mpr c14
         clear c14
         have H':=aM H
         clear H
         go_wp2
         go_meet
         case rel=>exact ⟨_,((a0_0==6)),(by first | rfl | (simp;done) | (simp [*];done)),H',⟨by first | omega | exact Nat.le_refl _⟩,⟨zK BK110.out⟩,⟨zC HB.out GE110.out⟩⟩
        ·rw [if_neg c14] at H
         have c14b0:(a0_0==6)=false:=beq_eq_false_iff_ne.mpr c14
         by_cases c15:a0_0=7
         ·rw [if_pos c15] at H
          have c15b0:(a0_0==7)=true:=beq_iff_eq.mpr c15
          clear c15
          have H':=aM H
          clear H
          go_wp2
          go_meet
          case rel=>exact ⟨_,((a0_0==7)),(by first | rfl | (simp;done) | (simp [*];done)),H',⟨by first | omega | exact Nat.le_refl _⟩,⟨zK BK110.out⟩,⟨zC HB.out GE110.out⟩⟩
         ·rw [if_neg c15] at H
          have c15b0:(a0_0==7)=false:=beq_eq_false_iff_ne.mpr c15
          by_cases c16:a0_0=9
          ·rw [if_pos c16] at H
           have c16b0:(a0_0==9)=true:=beq_iff_eq.mpr c16
           clear c16
           have H':=aM H
           clear H
           go_wp2
           go_meet
           case rel=>exact ⟨_,((a0_0==9)),(by first | rfl | (simp;done) | (simp [*];done)),H',⟨by first | omega | exact Nat.le_refl _⟩,⟨zK BK110.out⟩,⟨zC HB.out GE110.out⟩⟩
          ·rw [if_neg c16] at H
           have c16b0:(a0_0==9)=false:=beq_eq_false_iff_ne.mpr c16
           by_cases c17:a0_0=11
           ·rw [if_pos c17] at H
            have c17b0:(a0_0==11)=true:=beq_iff_eq.mpr c17
            clear c17
            have H':=aM H
            clear H
            go_wp2
            go_meet
            case rel=>exact ⟨_,((a0_0==11)),(by first | rfl | (simp;done) | (simp [*];done)),H',⟨by first | omega | exact Nat.le_refl _⟩,⟨zK BK110.out⟩,⟨zC HB.out GE110.out⟩⟩
           ·rw [if_neg c17] at H
            have c17b0:(a0_0==11)=false:=beq_eq_false_iff_ne.mpr c17
            have H':=aM H
            clear H
            go_wp2
            go_meet
            case rel=>exact ⟨_,((a0_0==16)),(by first | rfl | (simp;done) | (simp [*];done)),H',⟨by first | omega | exact Nat.le_refl _⟩,⟨zK BK110.out⟩,⟨zC HB.out GE110.out⟩⟩
  case rest=>
   clear HC6 hcz8_0
   obtain ⟨kq,x10_5,rfl,HA,HJ5,BK110,HB⟩:=hcut
   cases kq with
   | zero=>exact absurd HA.out (by simp [r05_Makes.j0])
   | succ kj5=>
    have H:=HA.out
    clear HA
    simp only [r05_Makes.j0] at H
    by_cases c18:x10_5=true
    ·subst c18
     have H1:(some 1)=some r:=by rw [if_pos rfl] at H;exact H
     clear H
     have H:=H1
     clear H1
     obtain rfl:=Option.some.inj H
     go_wp2
     go_ret
     exact ⟨zF,zC HB.out GE110.out⟩
    ·replace c18:=Bool.eq_false_iff.mpr c18
     subst c18
     have H1:(if a0_0=8 then (r05_Makes.j1 kj5 a0_0 (a0_0==8)) else (if a0_0=10 then (r05_Makes.j1 kj5 a0_0 (a0_0==10)) else (if a0_0=12 then (r05_Makes.j1 kj5 a0_0 (a0_0==12)) else (r05_Makes.j1 kj5 a0_0 (a0_0==17)))))=some r:=by rw [if_neg (show ¬ (false=true) by decide)] at H;exact H
     clear H
     have H:=H1
     clear H1
     have HC19:=aM H
     clear H
     go_upto_if 21 with (fail)
     go_cut [21] (fun v21 wc=>∃ (kq:Nat) (x21_18:Bool),v21=.bool x21_18∧Aside0 (r05_Makes.j1 kq a0_0 x21_18=some r)∧Aside0 (kq≤kj5)∧Aside0 (wc.heap[gb110]?=some (.cells #[.int .i64 a0_0,.int .i64 a0_1,.int .i64 a0_2,.int .i64 a0_3,(.slice A0_4 l0_4.length c0_4),(.slice A0_5 l0_5.length c0_5),.string a0_6,.int .i64 a0_7] 39 (0,0)))∧Aside0 (Below w.heap.size w wc))
     case first=>
      have H:=HC19.out
      clear HC19
      by_cases c20:a0_0=8
      ·rw [if_pos c20] at H
       have c20b0:(a0_0==8)=true:=beq_iff_eq.mpr c20
       clear c20
       (first | rw [c20b0] | (simp only [i64_w,i32_w];rw [c20b0]) | skip)
       have H':=aM H
       clear H
       go_wp2
       go_meet
       case rel=>exact ⟨_,((a0_0==8)),(by first | rfl | (simp;done) | (simp [*];done)),H',⟨by have:=HJ5.out;first | omega | exact Nat.le_refl _⟩,⟨zK BK110.out⟩,⟨zC HB.out GE110.out⟩⟩
      ·rw [if_neg c20] at H
       have c20b0:(a0_0==8)=false:=beq_eq_false_iff_ne.mpr c20
       (first | rw [c20b0] | (simp only [i64_w,i32_w];rw [c20b0]) | skip)
       by_cases c21:a0_0=10
       ·rw [if_pos c21] at H
        have c21b0:(a0_0==10)=true:=beq_iff_eq.mpr c21
        clear c21
        have H':=aM H
        clear H
        go_wp2
        go_meet
        case rel=>exact ⟨_,((a0_0==10)),(by first | rfl | (simp;done) | (simp [*];done)),H',⟨by have:=HJ5.out;first | omega | exact Nat.le_refl _⟩,⟨zK BK110.out⟩,⟨zC HB.out GE110.out⟩⟩
       ·rw [if_neg c21] at H
        have c21b0:(a0_0==10)=false:=beq_eq_false_iff_ne.mpr c21
        by_cases c22:a0_0=12
        ·rw [if_pos c22] at H
         have c22b0:(a0_0==12)=true:=beq_iff_eq.mpr c22
         clear c22
         have H':=aM H
         clear H
         go_wp2
         go_meet
         case rel=>exact ⟨_,((a0_0==12)),(by first | rfl | (simp;done) | (simp [*];done)),H',⟨by have:=HJ5.out;first | omega | exact Nat.le_refl _⟩,⟨zK BK110.out⟩,⟨zC HB.out GE110.out⟩⟩
        ·rw [if_neg c22] at H
         have c22b0:(a0_0==12)=false:=beq_eq_false_iff_ne.mpr c22
         have H':=aM H
         clear H
         go_wp2
         go_meet
         case rel=>exact ⟨_,((a0_0==17)),(by first | rfl | (simp;done) | (simp [*];done)),H',⟨by have:=HJ5.out;first | omega | exact Nat.le_refl _⟩,⟨zK BK110.out⟩,⟨zC HB.out GE110.out⟩⟩
     case rest=>
      clear HC19
      obtain ⟨kq,x21_18,rfl,HA,HJ18,BK110,HB⟩:=hcut
      cases kq with
      | zero=>exact absurd HA.out (by simp [r05_Makes.j1])
      | succ kj18=>
       have H:=HA.out
       clear HA
       simp only [r05_Makes.j1] at H
       by_cases c23:x21_18=true
       ·subst c23
        have H1:(some 2)=some r:=by rw [if_pos rfl] at H;exact H
        clear H
        have H:=H1
        clear H1
        obtain rfl:=Option.some.inj H
        go_wp2
        go_ret
        exact ⟨zF,zC HB.out GE110.out⟩
       ·replace c23:=Bool.eq_false_iff.mpr c23
        subst c23
        have H1:(if a0_0=15 then (some 3) else (some 0))=some r:=by rw [if_neg (show ¬ (false=true) by decide)] at H;exact H
        clear H
        have H:=H1
        clear H1
        by_cases c24:a0_0=15
        ·rw [if_pos c24] at H
         have c24b0:(a0_0==15)=true:=beq_iff_eq.mpr c24
         clear c24
         obtain rfl:=Option.some.inj H
         go_wp2
         go_ret
         exact ⟨zF,zC HB.out GE110.out⟩
        ·rw [if_neg c24] at H
         have c24b0:(a0_0==15)=false:=beq_eq_false_iff_ne.mpr c24
         obtain rfl:=Option.some.inj H
         go_wp2
         go_ret
         exact ⟨zF,zC HB.out GE110.out⟩
def r05_May.f (a0:Int) (a1:Int):Option (Bool):=if a0=20 then (if a1≥1 then (some (decide (a1≤3))) else (some false)) else (if a0=21 then (if a1≥0 then (some (decide (a1≤2))) else (some false)) else (if a0=24 then (if a1=2 then (some true) else (some (a1==3))) else (some (a1==0))))
theorem r05_May.calls (a0:Int) (a1:Int) (r:Bool) (w:World) (h:r05_May.f a0 a1=some r):
  Calls Try.prog 50 #[.int .i64 a0,.int .i64 a1] w fun e w'=>e=.returned (.bool r)∧Drawn0 w w':=by
 have H:(if a0=20 then (if a1≥1 then (some (decide (a1≤3))) else (some false)) else (if a0=21 then (if a1≥0 then (some (decide (a1≤2))) else (some false)) else (if a0=24 then (if a1=2 then (some true) else (some (a1==3))) else (some (a1==0)))))=some r:=h
 clear h
 by_cases c3:a0=20
 ·rw [if_pos c3] at H
  have c3b0:(a0==20)=true:=beq_iff_eq.mpr c3
  clear c3
  by_cases c4:a1≥1
  ·rw [if_pos c4] at H
   have c4b0:decide (1≤a1)=true:=decide_eq_true c4
   clear c4
   obtain rfl:=Option.some.inj H
   go_enter Try.func50,Try.ntmps50
   go_wp2
   go_ret
   exact ⟨by first | rfl | (simp;done) | (simp [*];done),zQ⟩
  ·rw [if_neg c4] at H
   have c4b0:decide (1≤a1)=false:=decide_eq_false c4
   clear c4
   obtain rfl:=Option.some.inj H
   go_enter Try.func50,Try.ntmps50
   go_wp2
   go_ret
   exact ⟨by first | rfl | (simp;done) | (simp [*];done),zQ⟩
 ·rw [if_neg c3] at H
  have c3b0:(a0==20)=false:=beq_eq_false_iff_ne.mpr c3
  by_cases c5:a0=21
  ·rw [if_pos c5] at H
   have c5b0:(a0==21)=true:=beq_iff_eq.mpr c5
   clear c5
   by_cases c6:a1≥0
   ·rw [if_pos c6] at H
    have c6b0:decide (0≤a1)=true:=decide_eq_true c6
    clear c6
    obtain rfl:=Option.some.inj H
    go_enter Try.func50,Try.ntmps50
    go_wp2
    go_ret
    exact ⟨by first | rfl | (simp;done) | (simp [*];done),zQ⟩
   ·rw [if_neg c6] at H
    have c6b0:decide (0≤a1)=false:=decide_eq_false c6
    clear c6
    obtain rfl:=Option.some.inj H
    go_enter Try.func50,Try.ntmps50
    go_wp2
    go_ret
    exact ⟨by first | rfl | (simp;done) | (simp [*];done),zQ⟩
  ·rw [if_neg c5] at H
   have c5b0:(a0==21)=false:=beq_eq_false_iff_ne.mpr c5
   by_cases c7:a0=24
   ·rw [if_pos c7] at H
    have c7b0:(a0==24)=true:=beq_iff_eq.mpr c7
    clear c7
    by_cases c8:a1=2
    ·rw [if_pos c8] at H
     have c8b0:(a1==2)=true:=beq_iff_eq.mpr c8
     clear c8
     obtain rfl:=Option.some.inj H
     go_enter Try.func50,Try.ntmps50
     go_wp2
     go_ret
     exact ⟨by first | rfl | (simp;done) | (simp [*];done),zQ⟩
    ·rw [if_neg c8] at H
     have c8b0:(a1==2)=false:=beq_eq_false_iff_ne.mpr c8
     obtain rfl:=Option.some.inj H
     go_enter Try.func50,Try.ntmps50
     go_wp2
     go_ret
     exact ⟨by first | rfl | (simp;done) | (simp [*];done),zQ⟩
   ·rw [if_neg c7] at H
    have c7b0:(a0==24)=false:=beq_eq_false_iff_ne.mpr c7
    obtain rfl:=Option.some.inj H
    go_enter Try.func50,Try.ntmps50
    go_wp2
    go_ret
    exact ⟨by first | rfl | (simp;done) | (simp [*];done),zQ⟩
end Go.Proofs.Ytkjdblbgmomieaa.PSh
end
