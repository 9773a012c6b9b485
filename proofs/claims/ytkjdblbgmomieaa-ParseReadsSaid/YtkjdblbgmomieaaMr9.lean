import Derived.Test.YtkjdblbgmomieaaMr2
import Derived.Test.YtkjdblbgmomieaaMr3
-- from YtkjdblbgmomieaaPShx2
section
namespace Go.Proofs.Ytkjdblbgmomieaa.PSh
set_option maxHeartbeats 8000000
set_option maxRecDepth 100000
open Go.RowKit Go.Proofs.YtkjdblbgmomieaaW.PrintWords Go.Proofs.YtkjdblbgmomieaaW.PrintLast Go.Proofs.YtkjdblbgmomieaaW.PrintMore Go.Proofs.Ytkjdblbgmomieaa.Zip
attribute [local go_sem] max2_int min2_int max_two min_two max_three min_three max_four min_four   -- for this text's walks alone
set_option linter.unusedVariables false
set_option linter.unusedSimpArgs false
mutual
def r02_Name.j0:Nat→ByteArray→Bool→Option (Bool)
 | 0,_,_=>none
 | k+1,x0,x13=>if x13=true then (some false) else (r02_Name.l0 k x0 0)
def r02_Name.l0:Nat→ByteArray→Int→Option (Bool)
 | 0,_,_=>none
 | k+1,x0,x3=>if x3<(x0.size:Int) then (if 0≤x3 then (if (bt x0 x3)≥97 then (if (bt x0 x3)≥48 then (if ((bt x0 x3)≤122) then (r02_Name.l0 k x0 (wrap64 (x3+1))) else (if x3=0 then (some false) else (if ((bt x0 x3)≤57) then (r02_Name.l0 k x0 (wrap64 (x3+1))) else (if (bt x0 x3)=95 then (r02_Name.l0 k x0 (wrap64 (x3+1))) else (some false))))) else (if ((bt x0 x3)≤122) then (r02_Name.l0 k x0 (wrap64 (x3+1))) else (if x3=0 then (some false) else (if (bt x0 x3)=95 then (r02_Name.l0 k x0 (wrap64 (x3+1))) else (some false))))) else (if (bt x0 x3)≥48 then (if x3=0 then (some false) else (if ((bt x0 x3)≤57) then (r02_Name.l0 k x0 (wrap64 (x3+1))) else (if (bt x0 x3)=95 then (r02_Name.l0 k x0 (wrap64 (x3+1))) else (some false)))) else (if x3=0 then (some false) else (if (bt x0 x3)=95 then (r02_Name.l0 k x0 (wrap64 (x3+1))) else (some false))))) else (none)) else (some true)
end
def r02_Name.f (k:Nat) (a0:ByteArray):Option (Bool):=if (a0.size:Int)<1 then (r02_Name.j0 k a0 true) else (r02_Name.j0 k a0 (decide ((a0.size:Int)>24)))
theorem r02_Name.calls (k:Nat) (a0:ByteArray) (r:Bool) (w:World) (h:r02_Name.f k a0=some r):
  Calls Try.prog 24 #[.string a0] w fun e w'=>e=.returned (.bool r)∧Drawn0 w w':=by
 have H:(if (a0.size:Int)<1 then (r02_Name.j0 k a0 true) else (r02_Name.j0 k a0 (decide ((a0.size:Int)>24))))=some r:=h
 clear h
 have HC2:=aM H
 clear H
 go_enter Try.func24,Try.ntmps24
 go_upto_region 1 with (fail)
 go_cut [13] (fun v13 wc=>∃ (kq:Nat) (x13_1:Bool),v13=.bool x13_1∧Aside0 (r02_Name.j0 kq a0 x13_1=some r)∧Aside0 (kq≤k)∧Drawn0 w wc)
 case first=>
  have H:=HC2.out
  clear HC2
  by_cases c3:(a0.size:Int)<1
  ·rw [if_pos c3] at H
   have c3b0:decide ((a0.size:Int)<1)=true:=decide_eq_true c3
   clear c3
   (first | rw [c3b0] | (simp only [i64_w,i32_w];rw [c3b0]) | skip)
   have H':=aM H
   clear H
   go_wp2
   go_meet
   case rel=>exact ⟨_,(true),(by first | rfl | (simp;done) | (simp [*];done)),H',⟨by first | omega | exact Nat.le_refl _⟩,zQ⟩
  ·rw [if_neg c3] at H
   have c3b0:decide ((a0.size:Int)<1)=false:=decide_eq_false c3
   clear c3
   (first | rw [c3b0] | (simp only [i64_w,i32_w];rw [c3b0]) | skip)
   have H':=aM H
   clear H
   go_wp2
   go_meet
   case rel=>exact ⟨_,(decide ((a0.size:Int)>24)),(by first | rfl | (simp;done) | (simp [*];done)),H',⟨by first | omega | exact Nat.le_refl _⟩,zQ⟩
 case rest=>
  clear HC2
  obtain ⟨kq,x13_1,rfl,HA,HJ1,⟨mc1,rfl⟩⟩:=hcut
  cases kq with
  | zero=>exact absurd HA.out (by simp [r02_Name.j0])
  | succ kj1=>
   have H:=HA.out
   clear HA
   simp only [r02_Name.j0] at H
   by_cases c4:x13_1=true
   ·subst c4
    have H1:(some false)=some r:=by rw [if_pos rfl] at H;exact H
    clear H
    have H:=H1
    clear H1
    obtain rfl:=Option.some.inj H
    go_wp2
    go_ret
    exact ⟨by first | rfl | (simp;done) | (simp [*];done),zQ⟩
   ·replace c4:=Bool.eq_false_iff.mpr c4
    subst c4
    have H1:(r02_Name.l0 kj1 a0 0)=some r:=by rw [if_neg (show ¬ (false=true) by decide)] at H;exact H
    clear H
    have H:=H1
    clear H1
    have H':=aM H
    clear H
    go_wp2
    go_loopg [3] kj1 (fun kq v3 w'=>∃ (x3_2:Int),v3=.int .i64 x3_2∧Aside0 (r02_Name.l0 kq a0 x3_2=some r)∧Aside0 (kq≤kj1)∧Drawn0 w w')
    case atStart=>exact ⟨(0),(by first | rfl | (simp;done) | (simp [*];done)),H',⟨Nat.le_refl _⟩,zQ⟩
    case round=>
     clear H'
     obtain ⟨x3_2,rfl,HA,HK2,⟨m2,rfl⟩⟩:=hrel
     cases gk with
     | zero=>exact absurd HA.out (by simp [r02_Name.l0])
     | succ k2=>
      have H:=HA.out
      clear HA
      simp only [r02_Name.l0] at H
      by_cases c5:x3_2<(a0.size:Int)
      ·rw [if_pos c5] at H
       have c5b0:decide (x3_2<(a0.size:Int))=true:=decide_eq_true c5
       clear c5
       by_cases c6:0≤x3_2
       ·rw [if_pos c6] at H
        have c6b0:decide (0≤x3_2)=true:=decide_eq_true c6
        clear c6
        by_cases c8:(bt a0 x3_2)≥97
        ·rw [if_pos c8] at H
         have c8b0:decide (97≤(bt a0 x3_2))=true:=decide_eq_true c8
         clear c8
         by_cases c11:(bt a0 x3_2)≥48
         ·rw [if_pos c11] at H
          have c11b0:decide (48≤(bt a0 x3_2))=true:=decide_eq_true c11
          clear c11
          by_cases c13:((bt a0 x3_2)≤122)
          ·rw [if_pos c13] at H
           have c13b0:decide ((bt a0 x3_2)≤122)=true:=decide_eq_true c13
           clear c13
           have H':=aM H
           clear H
           have p7:0≤(x3_2:Int):=of_decide_eq_true zS
           have q7:x3_2<(a0.size:Int):=of_decide_eq_true zS
           have hx7:=bt_at a0 x3_2
           replace p7:=eq_true p7
           replace q7:=eq_true q7
           have p9:0≤(x3_2:Int):=of_decide_eq_true zS
           have q9:x3_2<(a0.size:Int):=of_decide_eq_true zS
           replace p9:=eq_true p9
           replace q9:=eq_true q9
           have p10:0≤(x3_2:Int):=of_decide_eq_true zS
           have q10:x3_2<(a0.size:Int):=of_decide_eq_true zS
           replace p10:=eq_true p10
           replace q10:=eq_true q10
           have p12:0≤(x3_2:Int):=of_decide_eq_true zS
           have q12:x3_2<(a0.size:Int):=of_decide_eq_true zS
           replace p12:=eq_true p12
           replace q12:=eq_true q12
           go_wp2
           go_roundg k2
           case measure=>have:=HJ1.out;have:=HK2.out;omega
           case rel=>exact ⟨(wrap64 (x3_2+1)),(by first | rfl | (simp;done) | (simp [*];done)),H',⟨by have:=HJ1.out;have:=HK2.out;omega⟩,zQ⟩
          ·rw [if_neg c13] at H
           have c13b0:decide ((bt a0 x3_2)≤122)=false:=decide_eq_false c13
           clear c13
           by_cases c14:x3_2=0
           ·rw [if_pos c14] at H
            have c14b0:(x3_2==0)=true:=beq_iff_eq.mpr c14
            clear c14
            obtain rfl:=Option.some.inj H
            have p7:0≤(x3_2:Int):=of_decide_eq_true zS
            have q7:x3_2<(a0.size:Int):=of_decide_eq_true zS
            have hx7:=bt_at a0 x3_2
            replace p7:=eq_true p7
            replace q7:=eq_true q7
            have p9:0≤(x3_2:Int):=of_decide_eq_true zS
            have q9:x3_2<(a0.size:Int):=of_decide_eq_true zS
            replace p9:=eq_true p9
            replace q9:=eq_true q9
            have p10:0≤(x3_2:Int):=of_decide_eq_true zS
            have q10:x3_2<(a0.size:Int):=of_decide_eq_true zS
            replace p10:=eq_true p10
            replace q10:=eq_true q10
            have p12:0≤(x3_2:Int):=of_decide_eq_true zS
            have q12:x3_2<(a0.size:Int):=of_decide_eq_true zS
            replace p12:=eq_true p12
            replace q12:=eq_true q12
            go_wp2
            go_ret
            exact ⟨by first | rfl | (simp;done) | (simp [*];done),zQ⟩
           ·rw [if_neg c14] at H
            have c14b0:(x3_2==0)=false:=beq_eq_false_iff_ne.mpr c14
            by_cases c15:((bt a0 x3_2)≤57)
            ·rw [if_pos c15] at H
             have c15b0:decide ((bt a0 x3_2)≤57)=true:=decide_eq_true c15
             clear c15
             have H':=aM H
             clear H
             have p7:0≤(x3_2:Int):=of_decide_eq_true zS
             have q7:x3_2<(a0.size:Int):=of_decide_eq_true zS
             have hx7:=bt_at a0 x3_2
             replace p7:=eq_true p7
             replace q7:=eq_true q7
             have p9:0≤(x3_2:Int):=of_decide_eq_true zS
             have q9:x3_2<(a0.size:Int):=of_decide_eq_true zS
             replace p9:=eq_true p9
             replace q9:=eq_true q9
             have p10:0≤(x3_2:Int):=of_decide_eq_true zS
             have q10:x3_2<(a0.size:Int):=of_decide_eq_true zS
             replace p10:=eq_true p10
             replace q10:=eq_true q10
             have p12:0≤(x3_2:Int):=of_decide_eq_true zS
             have q12:x3_2<(a0.size:Int):=of_decide_eq_true zS
             replace p12:=eq_true p12
             replace q12:=eq_true q12
             go_wp2
             go_roundg k2
             case measure=>have:=HJ1.out;have:=HK2.out;omega
             case rel=>exact ⟨(wrap64 (x3_2+1)),(by first | rfl | (simp;done) | (simp [*];done)),H',⟨by have:=HJ1.out;have:=HK2.out;omega⟩,zQ⟩
            ·rw [if_neg c15] at H
             have c15b0:decide ((bt a0 x3_2)≤57)=false:=decide_eq_false c15
             clear c15
             by_cases c17:(bt a0 x3_2)=95
             ·rw [if_pos c17] at H
              have c17b1:((bt a0 x3_2) !=95)=false:=bne_eq_false_iff_eq.mpr c17
              clear c17
              have H':=aM H
              clear H
              have p7:0≤(x3_2:Int):=of_decide_eq_true zS
              have q7:x3_2<(a0.size:Int):=of_decide_eq_true zS
              have hx7:=bt_at a0 x3_2
              replace p7:=eq_true p7
              replace q7:=eq_true q7
              have p9:0≤(x3_2:Int):=of_decide_eq_true zS
              have q9:x3_2<(a0.size:Int):=of_decide_eq_true zS
              replace p9:=eq_true p9
              replace q9:=eq_true q9
              have p10:0≤(x3_2:Int):=of_decide_eq_true zS
              have q10:x3_2<(a0.size:Int):=of_decide_eq_true zS
              replace p10:=eq_true p10
              replace q10:=eq_true q10
              have p12:0≤(x3_2:Int):=of_decide_eq_true zS
              have q12:x3_2<(a0.size:Int):=of_decide_eq_true zS
              replace p12:=eq_true p12
              replace q12:=eq_true q12
              have p16:0≤(x3_2:Int):=of_decide_eq_true zS
              have q16:x3_2<(a0.size:Int):=of_decide_eq_true zS
              replace p16:=eq_true p16
              replace q16:=eq_true q16
              go_wp2
              go_roundg k2
              case measure=>have:=HJ1.out;have:=HK2.out;omega
              case rel=>exact ⟨(wrap64 (x3_2+1)),(by first | rfl | (simp;done) | (simp [*];done)),H',⟨by have:=HJ1.out;have:=HK2.out;omega⟩,zQ⟩
             ·rw [if_neg c17] at H
              have c17b1:((bt a0 x3_2) !=95)=true:=bne_iff_ne.mpr c17
              obtain rfl:=Option.some.inj H
              have p7:0≤(x3_2:Int):=of_decide_eq_true zS
              have q7:x3_2<(a0.size:Int):=of_decide_eq_true zS
              have hx7:=bt_at a0 x3_2
              replace p7:=eq_true p7
              replace q7:=eq_true q7
              have p9:0≤(x3_2:Int):=of_decide_eq_true zS
              have q9:x3_2<(a0.size:Int):=of_decide_eq_true zS
              replace p9:=eq_true p9
              replace q9:=eq_true q9
              have p10:0≤(x3_2:Int):=of_decide_eq_true zS
              have q10:x3_2<(a0.size:Int):=of_decide_eq_true zS
              replace p10:=eq_true p10
              replace q10:=eq_true q10
              have p12:0≤(x3_2:Int):=of_decide_eq_true zS
              have q12:x3_2<(a0.size:Int):=of_decide_eq_true zS
              replace p12:=eq_true p12
              replace q12:=eq_true q12
              have p16:0≤(x3_2:Int):=of_decide_eq_true zS
              have q16:x3_2<(a0.size:Int):=of_decide_eq_true zS
              replace p16:=eq_true p16
              replace q16:=eq_true q16
              go_wp2
              go_ret
              exact ⟨by first | rfl | (simp;done) | (simp [*];done),zQ⟩
         ·rw [if_neg c11] at H
          have c11b0:decide (48≤(bt a0 x3_2))=false:=decide_eq_false c11
          clear c11
          by_cases c18:((bt a0 x3_2)≤122)
          ·rw [if_pos c18] at H
           have c18b0:decide ((bt a0 x3_2)≤122)=true:=decide_eq_true c18
           clear c18
           have H':=aM H
           clear H
           have p7:0≤(x3_2:Int):=of_decide_eq_true zS
           have q7:x3_2<(a0.size:Int):=of_decide_eq_true zS
           have hx7:=bt_at a0 x3_2
           replace p7:=eq_true p7
           replace q7:=eq_true q7
           have p9:0≤(x3_2:Int):=of_decide_eq_true zS
           have q9:x3_2<(a0.size:Int):=of_decide_eq_true zS
           replace p9:=eq_true p9
           replace q9:=eq_true q9
           have p10:0≤(x3_2:Int):=of_decide_eq_true zS
           have q10:x3_2<(a0.size:Int):=of_decide_eq_true zS
           replace p10:=eq_true p10
           replace q10:=eq_true q10
           go_wp2
           go_roundg k2
           case measure=>have:=HJ1.out;have:=HK2.out;omega
           case rel=>exact ⟨(wrap64 (x3_2+1)),(by first | rfl | (simp;done) | (simp [*];done)),H',⟨by have:=HJ1.out;have:=HK2.out;omega⟩,zQ⟩
          ·rw [if_neg c18] at H
           have c18b0:decide ((bt a0 x3_2)≤122)=false:=decide_eq_false c18
           clear c18
           by_cases c19:x3_2=0
           ·rw [if_pos c19] at H
            have c19b0:(x3_2==0)=true:=beq_iff_eq.mpr c19
            clear c19
            obtain rfl:=Option.some.inj H
            have p7:0≤(x3_2:Int):=of_decide_eq_true zS
            have q7:x3_2<(a0.size:Int):=of_decide_eq_true zS
            have hx7:=bt_at a0 x3_2
            replace p7:=eq_true p7
            replace q7:=eq_true q7
            have p9:0≤(x3_2:Int):=of_decide_eq_true zS
            have q9:x3_2<(a0.size:Int):=of_decide_eq_true zS
            replace p9:=eq_true p9
            replace q9:=eq_true q9
            have p10:0≤(x3_2:Int):=of_decide_eq_true zS
            have q10:x3_2<(a0.size:Int):=of_decide_eq_true zS
            replace p10:=eq_true p10
            replace q10:=eq_true q10
            go_wp2
            go_ret
            exact ⟨by first | rfl | (simp;done) | (simp [*];done),zQ⟩
           ·rw [if_neg c19] at H
            have c19b0:(x3_2==0)=false:=beq_eq_false_iff_ne.mpr c19
            by_cases c21:(bt a0 x3_2)=95
            ·rw [if_pos c21] at H
             have c21b1:((bt a0 x3_2) !=95)=false:=bne_eq_false_iff_eq.mpr c21
             clear c21
             have H':=aM H
             clear H
             have p7:0≤(x3_2:Int):=of_decide_eq_true zS
             have q7:x3_2<(a0.size:Int):=of_decide_eq_true zS
             have hx7:=bt_at a0 x3_2
             replace p7:=eq_true p7
             replace q7:=eq_true q7
             have p9:0≤(x3_2:Int):=of_decide_eq_true zS
             have q9:x3_2<(a0.size:Int):=of_decide_eq_true zS
             replace p9:=eq_true p9
             replace q9:=eq_true q9
             have p10:0≤(x3_2:Int):=of_decide_eq_true zS
             have q10:x3_2<(a0.size:Int):=of_decide_eq_true zS
             replace p10:=eq_true p10
             replace q10:=eq_true q10
             have p20:0≤(x3_2:Int):=of_decide_eq_true zS
             have q20:x3_2<(a0.size:Int):=of_decide_eq_true zS
             replace p20:=eq_true p20
             replace q20:=eq_true q20
             go_wp2
             go_roundg k2
             case measure=>have:=HJ1.out;have:=HK2.out;omega
             case rel=>exact ⟨(wrap64 (x3_2+1)),(by first | rfl | (simp;done) | (simp [*];done)),H',⟨by have:=HJ1.out;have:=HK2.out;omega⟩,zQ⟩
            ·rw [if_neg c21] at H
             have c21b1:((bt a0 x3_2) !=95)=true:=bne_iff_ne.mpr c21
             obtain rfl:=Option.some.inj H
             have p7:0≤(x3_2:Int):=of_decide_eq_true zS
             have q7:x3_2<(a0.size:Int):=of_decide_eq_true zS
             have hx7:=bt_at a0 x3_2
             replace p7:=eq_true p7
             replace q7:=eq_true q7
             have p9:0≤(x3_2:Int):=of_decide_eq_true zS
             have q9:x3_2<(a0.size:Int):=of_decide_eq_true zS
             replace p9:=eq_true p9
             replace q9:=eq_true q9
             have p10:0≤(x3_2:Int):=of_decide_eq_true zS
             have q10:x3_2<(a0.size:Int):=of_decide_eq_true zS
             replace p10:=eq_true p10
             replace q10:=eq_true q10
             have p20:0≤(x3_2:Int):=of_decide_eq_true zS
             have q20:x3_2<(a0.size:Int):=of_decide_eq_true zS
             replace p20:=eq_true p20
             replace q20:=eq_true q20
             go_wp2
             go_ret
             exact ⟨by first | rfl | (simp;done) | (simp [*];done),zQ⟩
        ·rw [if_neg c8] at H
         have c8b0:decide (97≤(bt a0 x3_2))=false:=decide_eq_false c8
         clear c8
         by_cases c23:(bt a0 x3_2)≥48
         ·rw [if_pos c23] at H
          have c23b0:decide (48≤(bt a0 x3_2))=true:=decide_eq_true c23
          clear c23
          by_cases c25:x3_2=0
          ·rw [if_pos c25] at H
           have c25b0:(x3_2==0)=true:=beq_iff_eq.mpr c25
           clear c25
           obtain rfl:=Option.some.inj H
           have p7:0≤(x3_2:Int):=of_decide_eq_true zS
           have q7:x3_2<(a0.size:Int):=of_decide_eq_true zS
           have hx7:=bt_at a0 x3_2
           replace p7:=eq_true p7
           replace q7:=eq_true q7
           have p22:0≤(x3_2:Int):=of_decide_eq_true zS
           have q22:x3_2<(a0.size:Int):=of_decide_eq_true zS
           replace p22:=eq_true p22
           replace q22:=eq_true q22
           have p24:0≤(x3_2:Int):=of_decide_eq_true zS
           have q24:x3_2<(a0.size:Int):=of_decide_eq_true zS
           replace p24:=eq_true p24
           replace q24:=eq_true q24
           go_wp2
           go_ret
           exact ⟨by first | rfl | (simp;done) | (simp [*];done),zQ⟩
          ·rw [if_neg c25] at H
           have c25b0:(x3_2==0)=false:=beq_eq_false_iff_ne.mpr c25
           by_cases c26:((bt a0 x3_2)≤57)
           ·rw [if_pos c26] at H
            have c26b0:decide ((bt a0 x3_2)≤57)=true:=decide_eq_true c26
            clear c26
            have H':=aM H
            clear H
            have p7:0≤(x3_2:Int):=of_decide_eq_true zS
            have q7:x3_2<(a0.size:Int):=of_decide_eq_true zS
            have hx7:=bt_at a0 x3_2
            replace p7:=eq_true p7
            replace q7:=eq_true q7
            have p22:0≤(x3_2:Int):=of_decide_eq_true zS
            have q22:x3_2<(a0.size:Int):=of_decide_eq_true zS
            replace p22:=eq_true p22
            replace q22:=eq_true q22
            have p24:0≤(x3_2:Int):=of_decide_eq_true zS
            have q24:x3_2<(a0.size:Int):=of_decide_eq_true zS
            replace p24:=eq_true p24
            replace q24:=eq_true q24
            go_wp2
            go_roundg k2
            case measure=>have:=HJ1.out;have:=HK2.out;omega
            case rel=>exact ⟨(wrap64 (x3_2+1)),(by first | rfl | (simp;done) | (simp [*];done)),H',⟨by have:=HJ1.out;have:=HK2.out;omega⟩,zQ⟩
           ·rw [if_neg c26] at H
            have c26b0:decide ((bt a0 x3_2)≤57)=false:=decide_eq_false c26
            clear c26
            by_cases c28:(bt a0 x3_2)=95
            ·rw [if_pos c28] at H
             have c28b1:((bt a0 x3_2) !=95)=false:=bne_eq_false_iff_eq.mpr c28
             clear c28
             have H':=aM H
             clear H
             have p7:0≤(x3_2:Int):=of_decide_eq_true zS
             have q7:x3_2<(a0.size:Int):=of_decide_eq_true zS
             have hx7:=bt_at a0 x3_2
             replace p7:=eq_true p7
             replace q7:=eq_true q7
             have p22:0≤(x3_2:Int):=of_decide_eq_true zS
             have q22:x3_2<(a0.size:Int):=of_decide_eq_true zS
             replace p22:=eq_true p22
             replace q22:=eq_true q22
             have p24:0≤(x3_2:Int):=of_decide_eq_true zS
             have q24:x3_2<(a0.size:Int):=of_decide_eq_true zS
             replace p24:=eq_true p24
             replace q24:=eq_true q24
             have p27:0≤(x3_2:Int):=of_decide_eq_true zS
             have q27:x3_2<(a0.size:Int):=of_decide_eq_true zS
             replace p27:=eq_true p27
             replace q27:=eq_true q27
             go_wp2
             go_roundg k2
             case measure=>have:=HJ1.out;have:=HK2.out;omega
             case rel=>exact ⟨(wrap64 (x3_2+1)),(by first | rfl | (simp;done) | (simp [*];done)),H',⟨by have:=HJ1.out;have:=HK2.out;omega⟩,zQ⟩
            ·rw [if_neg c28] at H
             have c28b1:((bt a0 x3_2) !=95)=true:=bne_iff_ne.mpr c28
             obtain rfl:=Option.some.inj H
             have p7:0≤(x3_2:Int):=of_decide_eq_true zS
             have q7:x3_2<(a0.size:Int):=of_decide_eq_true zS
             have hx7:=bt_at a0 x3_2
             replace p7:=eq_true p7
             replace q7:=eq_true q7
             have p22:0≤(x3_2:Int):=of_decide_eq_true zS
             have q22:x3_2<(a0.size:Int):=of_decide_eq_true zS
             replace p22:=eq_true p22
             replace q22:=eq_true q22
             have p24:0≤(x3_2:Int):=of_decide_eq_true zS
             have q24:x3_2<(a0.size:Int):=of_decide_eq_true zS
             replace p24:=eq_true p24
             replace q24:=eq_true q24
             have p27:0≤(x3_2:Int):=of_decide_eq_true zS
             have q27:x3_2<(a0.size:Int):=of_decide_eq_true zS
             replace p27:=eq_true p27
             replace q27:=eq_true q27
             go_wp2
             go_ret
             exact ⟨by first | rfl | (simp;done) | (simp [*];done),zQ⟩
         ·rw [if_neg c23] at H
          have c23b0:decide (48≤(bt a0 x3_2))=false:=decide_eq_false c23
          clear c23
          by_cases c29:x3_2=0
          ·rw [if_pos c29] at H
           have c29b0:(x3_2==0)=true:=beq_iff_eq.mpr c29
           clear c29
           obtain rfl:=Option.some.inj H
           have p7:0≤(x3_2:Int):=of_decide_eq_true zS
           have q7:x3_2<(a0.size:Int):=of_decide_eq_true zS
           have hx7:=bt_at a0 x3_2
           replace p7:=eq_true p7
           replace q7:=eq_true q7
           have p22:0≤(x3_2:Int):=of_decide_eq_true zS
           have q22:x3_2<(a0.size:Int):=of_decide_eq_true zS
           replace p22:=eq_true p22
           replace q22:=eq_true q22
           go_wp2
           go_ret
           exact ⟨by first | rfl | (simp;done) | (simp [*];done),zQ⟩
          ·rw [if_neg c29] at H
           have c29b0:(x3_2==0)=false:=beq_eq_false_iff_ne.mpr c29
           by_cases c31:(bt a0 x3_2)=95
           ·rw [if_pos c31] at H
            have c31b1:((bt a0 x3_2) !=95)=false:=bne_eq_false_iff_eq.mpr c31
            clear c31
            have H':=aM H
            clear H
            have p7:0≤(x3_2:Int):=of_decide_eq_true zS
            have q7:x3_2<(a0.size:Int):=of_decide_eq_true zS
            have hx7:=bt_at a0 x3_2
            replace p7:=eq_true p7
            replace q7:=eq_true q7
            have p22:0≤(x3_2:Int):=of_decide_eq_true zS
            have q22:x3_2<(a0.size:Int):=of_decide_eq_true zS
            replace p22:=eq_true p22
            replace q22:=eq_true q22
            have p30:0≤(x3_2:Int):=of_decide_eq_true zS
            have q30:x3_2<(a0.size:Int):=of_decide_eq_true zS
            replace p30:=eq_true p30
            replace q30:=eq_true q30
            go_wp2
            go_roundg k2
            case measure=>have:=HJ1.out;have:=HK2.out;omega
            case rel=>exact ⟨(wrap64 (x3_2+1)),(by first | rfl | (simp;done) | (simp [*];done)),H',⟨by have:=HJ1.out;have:=HK2.out;omega⟩,zQ⟩
           ·rw [if_neg c31] at H
            have c31b1:((bt a0 x3_2) !=95)=true:=bne_iff_ne.mpr c31
            obtain rfl:=Option.some.inj H
            have p7:0≤(x3_2:Int):=of_decide_eq_true zS
            have q7:x3_2<(a0.size:Int):=of_decide_eq_true zS
            have hx7:=bt_at a0 x3_2
            replace p7:=eq_true p7
            replace q7:=eq_true q7
            have p22:0≤(x3_2:Int):=of_decide_eq_true zS
            have q22:x3_2<(a0.size:Int):=of_decide_eq_true zS
            replace p22:=eq_true p22
            replace q22:=eq_true q22
            have p30:0≤(x3_2:Int):=of_decide_eq_true zS
            have q30:x3_2<(a0.size:Int):=of_decide_eq_true zS
            replace p30:=eq_true p30
            replace q30:=eq_true q30
            go_wp2
            go_ret
            exact ⟨by first | rfl | (simp;done) | (simp [*];done),zQ⟩
       ·rw [if_neg c6] at H
        exact absurd H (by simp)
      ·rw [if_neg c5] at H
       have c5b0:decide (x3_2<(a0.size:Int))=false:=decide_eq_false c5
       clear c5
       obtain rfl:=Option.some.inj H
       go_wp2
       go_ret
       exact ⟨by first | rfl | (simp;done) | (simp [*];done),zQ⟩
def r05_typed.f (a0:Int):Option (Bool):=if a0=20 then (some true) else (if a0=21 then (some true) else (some (a0==24)))
theorem r05_typed.calls (a0:Int) (r:Bool) (w:World) (h:r05_typed.f a0=some r):
  Calls Try.prog 63 #[.int .i64 a0] w fun e w'=>e=.returned (.bool r)∧Drawn0 w w':=by
 have H:(if a0=20 then (some true) else (if a0=21 then (some true) else (some (a0==24))))=some r:=h
 clear h
 by_cases c2:a0=20
 ·rw [if_pos c2] at H
  have c2b0:(a0==20)=true:=beq_iff_eq.mpr c2
  clear c2
  obtain rfl:=Option.some.inj H
  go_enter Try.func63,Try.ntmps63
  go_wp2
  go_ret
  exact ⟨by first | rfl | (simp;done) | (simp [*];done),zQ⟩
 ·rw [if_neg c2] at H
  have c2b0:(a0==20)=false:=beq_eq_false_iff_ne.mpr c2
  by_cases c3:a0=21
  ·rw [if_pos c3] at H
   have c3b0:(a0==21)=true:=beq_iff_eq.mpr c3
   clear c3
   obtain rfl:=Option.some.inj H
   go_enter Try.func63,Try.ntmps63
   go_wp2
   go_ret
   exact ⟨by first | rfl | (simp;done) | (simp [*];done),zQ⟩
  ·rw [if_neg c3] at H
   have c3b0:(a0==21)=false:=beq_eq_false_iff_ne.mpr c3
   obtain rfl:=Option.some.inj H
   go_enter Try.func63,Try.ntmps63
   go_wp2
   go_ret
   exact ⟨by first | rfl | (simp;done) | (simp [*];done),zQ⟩
end Go.Proofs.Ytkjdblbgmomieaa.PSh
end
-- from YtkjdblbgmomieaaPShx12
section
namespace Go.Proofs.Ytkjdblbgmomieaa.PSh
set_option maxHeartbeats 8000000
set_option maxRecDepth 100000
open Go.RowKit Go.Proofs.YtkjdblbgmomieaaW.PrintWords Go.Proofs.YtkjdblbgmomieaaW.PrintLast Go.Proofs.YtkjdblbgmomieaaW.PrintMore Go.Proofs.Ytkjdblbgmomieaa.Zip
attribute [local go_sem] max2_int min2_int max_two min_two max_three min_three max_four min_four   -- for this text's walks alone
set_option linter.unusedVariables false
set_option linter.unusedSimpArgs false
def r01_Print.l0:Nat→Int→ByteArray→Int→Option (ByteArray)
 | 0,_,_,_=>none
 | k+1,x0,x3,x4=>if x4=0 then (if x0<0 then (if 1+x3.size≤9223372036854775807 then (some ((⟨#[45]⟩:ByteArray)++x3)) else (none)) else (some x3)) else (if (Int.tmod x4 10)<0 then ((some (([(wrap64 (48+(wrap64 (-(Int.tmod x4 10))))) % 256]:List Int):List Int)).bind fun y199=>(if (strOfNums y199).size+x3.size≤9223372036854775807 then (r01_Print.l0 k x0 ((strOfNums y199)++x3) (wrap64 (Int.tdiv x4 10))) else (none))) else ((some (([(wrap64 (48+(Int.tmod x4 10))) % 256]:List Int):List Int)).bind fun y202=>(if (strOfNums y202).size+x3.size≤9223372036854775807 then (r01_Print.l0 k x0 ((strOfNums y202)++x3) (wrap64 (Int.tdiv x4 10))) else (none))))
def r01_Print.f (k:Nat) (a0:Int):Option (ByteArray):=if a0=0 then (some (⟨#[48]⟩:ByteArray)) else (r01_Print.l0 k a0 (⟨#[]⟩:ByteArray) a0)
theorem r01_Print.calls (k:Nat) (a0:Int) (r:ByteArray) (w:World) (h:r01_Print.f k a0=some r):
  Calls Try.prog 44 #[.int .i64 a0] w fun e w'=>e=.returned (.string r)∧Below w.heap.size w w':=by
 have HB:=aM (Below.refl w.heap.size w)
 have H:(if a0=0 then (some (⟨#[48]⟩:ByteArray)) else (r01_Print.l0 k a0 (⟨#[]⟩:ByteArray) a0))=some r:=h
 clear h
 by_cases c2:a0=0
 ·rw [if_pos c2] at H
  have c2b0:(a0==0)=true:=beq_iff_eq.mpr c2
  clear c2
  obtain rfl:=Option.some.inj H
  go_enter Try.func44,Try.ntmps44
  go_wp2
  go_ret
  exact ⟨zF,zB HB.out⟩
 ·rw [if_neg c2] at H
  have c2b0:(a0==0)=false:=beq_eq_false_iff_ne.mpr c2
  have H':=aM H
  clear H
  go_enter Try.func44,Try.ntmps44
  go_wp2
  go_loopg [3,4] k (fun kq v3 v4 w'=>∃ (x3_1:ByteArray) (x4_1:Int),v3=.string x3_1∧v4=.int .i64 x4_1∧Aside0 (r01_Print.l0 kq a0 x3_1 x4_1=some r)∧Aside0 (kq≤k)∧Aside0 (Below w.heap.size w w'))
  case atStart=>exact ⟨((⟨#[]⟩:ByteArray)),(a0),(by first | rfl | (simp;done) | (simp [*];done)),(by first | rfl | (simp;done) | (simp [*];done)),H',⟨Nat.le_refl _⟩,⟨zB HB.out⟩⟩
  case round=>
   clear H' c2 c2b0
   obtain ⟨x3_1,x4_1,rfl,rfl,HA,HK1,HB⟩:=hrel
   cases gk with
   | zero=>exact absurd HA.out (by simp [r01_Print.l0])
   | succ k1=>
    have H:=HA.out
    clear HA
    simp only [r01_Print.l0] at H
    by_cases c3:x4_1=0
    ·rw [if_pos c3] at H
     have c3b1:(x4_1 !=0)=false:=bne_eq_false_iff_eq.mpr c3
     clear c3
     by_cases c4:a0<0
     ·rw [if_pos c4] at H
      have c4b0:decide (a0<0)=true:=decide_eq_true c4
      clear c4
      by_cases c5:1+x3_1.size≤9223372036854775807
      ·rw [if_pos c5] at H
       try have c5b2:(9223372036854775807<1+x3_1.size)=False:=eq_false (Nat.not_lt.2 c5)
       obtain rfl:=Option.some.inj H
       go_wp2
       go_ret
       exact ⟨zF,zB HB.out⟩
      ·rw [if_neg c5] at H
       exact absurd H (by simp)
     ·rw [if_neg c4] at H
      have c4b0:decide (a0<0)=false:=decide_eq_false c4
      clear c4
      obtain rfl:=Option.some.inj H
      go_wp2
      go_ret
      exact ⟨zF,zB HB.out⟩
    ·rw [if_neg c3] at H
     have c3b1:(x4_1 !=0)=true:=bne_iff_ne.mpr c3
     by_cases c6:(Int.tmod x4_1 10)<0
     ·rw [if_pos c6] at H
      have c6b0:decide ((Int.tmod x4_1 10)<0)=true:=decide_eq_true c6
      clear c6
      obtain ⟨y199,hy199⟩:∃ y_:List Int,y_=(([(wrap64 (48+(wrap64 (-(Int.tmod x4_1 10))))) % 256]:List Int)):=⟨_,rfl⟩
      replace H:(if (strOfNums y199).size+x3_1.size≤9223372036854775807 then (r01_Print.l0 k1 a0 ((strOfNums y199)++x3_1) (wrap64 (Int.tdiv x4_1 10))) else (none))=some r:=by first | (rw [hy199];with_reducible exact H) | (have H2_:=(Option.bind_some _ _).symm.trans H;rw [hy199];with_reducible exact H2_) | (have H2_:=(Option.bind_some _ _).symm.trans H;with_reducible exact H2_) | with_reducible exact H | (rw [hy199];exact H) | exact H
      have Ny199:=aM hy199
      clear hy199
      by_cases c7:(strOfNums y199).size+x3_1.size≤9223372036854775807
      ·rw [if_pos c7] at H
       try have c7b2:(9223372036854775807<(strOfNums y199).size+x3_1.size)=False:=eq_false (Nat.not_lt.2 c7)
       have H':=aM H
       clear H
       go_wp2_with (first | ((with_reducible refine gate_dst (N:=20) rfl ?_);refine Kd.R_lit (Kd.int .u8) _ 5 ?hg (N:=20) ?hd (xs:=([(wrap64 (48+(wrap64 (-(Int.tmod x4_1 10))))) % 256]:List Int)) (inner:=[.int .u8 ((wrap64 (48+(wrap64 (-(Int.tmod x4_1 10))))) % 256)]) (ok:=fun _=>True) (okp:=fun _=>True) ?hr ?hp (fun _ hk=>hk) trivial (Below.refl _ _) (Nat.le_refl _) (by simp) ?_;(case hd=>rfl);(case hg=>rfl);(case hr=>first | (go_simp;done) | (go_simp;rfl));(case hp=>exact (Reps.one (show Kd.M (Kd.int .u8) _ _ _ ((wrap64 (48+(wrap64 (-(Int.tmod x4_1 10))))) % 256) [.int .u8 ((wrap64 (48+(wrap64 (-(Int.tmod x4_1 10))))) % 256)] from rfl) (Reps.none _ _)));intro v200 w8 ho9 hb hg_ hnew_;clear hg_ hnew_;(first | rw [← Ny199.out] at ho9 | (simp only [Int.reduceToNat] at ho9;rw [← Ny199.out] at ho9));have n0_:=aM (Kd.R_lower ho9 (below_size (zB HB.out)));have n1_:=aM (below_step (zB HB.out) hb);clear HB;have HO201:=n0_;have HB:=n1_;clear n0_ n1_;clear hb ho9;have hcv10:=own_string (P:=Try.prog) Try.underlying53 Try.underlying5 Try.underlying9 (Kd.own_of_R HO201.out)))
       go_roundg k1
       case measure=>have:=HK1.out;omega
       case rel=>exact ⟨((strOfNums y199)++x3_1),(wrap64 (Int.tdiv x4_1 10)),(by first | rfl | (simp;done) | (simp [*];done)),(by first | rfl | (simp;done) | (simp [*];done)),H',⟨by have:=HK1.out;omega⟩,⟨zB HB.out⟩⟩
      ·rw [if_neg c7] at H
       exact absurd H (by simp)
     ·rw [if_neg c6] at H
      have c6b0:decide ((Int.tmod x4_1 10)<0)=false:=decide_eq_false c6
      clear c6
      obtain ⟨y202,hy202⟩:∃ y_:List Int,y_=(([(wrap64 (48+(Int.tmod x4_1 10))) % 256]:List Int)):=⟨_,rfl⟩
      replace H:(if (strOfNums y202).size+x3_1.size≤9223372036854775807 then (r01_Print.l0 k1 a0 ((strOfNums y202)++x3_1) (wrap64 (Int.tdiv x4_1 10))) else (none))=some r:=by first | (rw [hy202];with_reducible exact H) | (have H2_:=(Option.bind_some _ _).symm.trans H;rw [hy202];with_reducible exact H2_) | (have H2_:=(Option.bind_some _ _).symm.trans H;with_reducible exact H2_) | with_reducible exact H | (rw [hy202];exact H) | exact H
      have Ny202:=aM hy202
      clear hy202
      by_cases c11:(strOfNums y202).size+x3_1.size≤9223372036854775807
      ·rw [if_pos c11] at H
       try have c11b2:(9223372036854775807<(strOfNums y202).size+x3_1.size)=False:=eq_false (Nat.not_lt.2 c11)
       have H':=aM H
       clear H
       go_wp2_with (first | ((with_reducible refine gate_dst (N:=20) rfl ?_);refine Kd.R_lit (Kd.int .u8) _ 5 ?hg (N:=20) ?hd (xs:=([(wrap64 (48+(Int.tmod x4_1 10))) % 256]:List Int)) (inner:=[.int .u8 ((wrap64 (48+(Int.tmod x4_1 10))) % 256)]) (ok:=fun _=>True) (okp:=fun _=>True) ?hr ?hp (fun _ hk=>hk) trivial (Below.refl _ _) (Nat.le_refl _) (by simp) ?_;(case hd=>rfl);(case hg=>rfl);(case hr=>first | (go_simp;done) | (go_simp;rfl));(case hp=>exact (Reps.one (show Kd.M (Kd.int .u8) _ _ _ ((wrap64 (48+(Int.tmod x4_1 10))) % 256) [.int .u8 ((wrap64 (48+(Int.tmod x4_1 10))) % 256)] from rfl) (Reps.none _ _)));intro v203 w12 ho13 hb hg_ hnew_;clear hg_ hnew_;(first | rw [← Ny202.out] at ho13 | (simp only [Int.reduceToNat] at ho13;rw [← Ny202.out] at ho13));have n0_:=aM (Kd.R_lower ho13 (below_size (zB HB.out)));have n1_:=aM (below_step (zB HB.out) hb);clear HB;have HO204:=n0_;have HB:=n1_;clear n0_ n1_;clear hb ho13;have hcv14:=own_string (P:=Try.prog) Try.underlying53 Try.underlying5 Try.underlying9 (Kd.own_of_R HO204.out)))
       go_roundg k1
       case measure=>have:=HK1.out;omega
       case rel=>exact ⟨((strOfNums y202)++x3_1),(wrap64 (Int.tdiv x4_1 10)),(by first | rfl | (simp;done) | (simp [*];done)),(by first | rfl | (simp;done) | (simp [*];done)),H',⟨by have:=HK1.out;omega⟩,⟨zB HB.out⟩⟩
      ·rw [if_neg c11] at H
       exact absurd H (by simp)
def r05_Letter.f (a0:Int):Option (ByteArray):=if a0=1 then (some (⟨#[105]⟩:ByteArray)) else (if a0=2 then (some (⟨#[112]⟩:ByteArray)) else (if a0=3 then (some (⟨#[100]⟩:ByteArray)) else (some (⟨#[110]⟩:ByteArray))))
theorem r05_Letter.calls (a0:Int) (r:ByteArray) (w:World) (h:r05_Letter.f a0=some r):
  Calls Try.prog 35 #[.int .i64 a0] w fun e w'=>e=.returned (.string r)∧Drawn0 w w':=by
 have H:(if a0=1 then (some (⟨#[105]⟩:ByteArray)) else (if a0=2 then (some (⟨#[112]⟩:ByteArray)) else (if a0=3 then (some (⟨#[100]⟩:ByteArray)) else (some (⟨#[110]⟩:ByteArray)))))=some r:=h
 clear h
 by_cases c2:a0=1
 ·rw [if_pos c2] at H
  have c2b0:(a0==1)=true:=beq_iff_eq.mpr c2
  clear c2
  obtain rfl:=Option.some.inj H
  go_enter Try.func35,Try.ntmps35
  go_wp2
  go_ret
  exact ⟨by first | rfl | (simp;done) | (simp [*];done),zQ⟩
 ·rw [if_neg c2] at H
  have c2b0:(a0==1)=false:=beq_eq_false_iff_ne.mpr c2
  by_cases c3:a0=2
  ·rw [if_pos c3] at H
   have c3b0:(a0==2)=true:=beq_iff_eq.mpr c3
   clear c3
   obtain rfl:=Option.some.inj H
   go_enter Try.func35,Try.ntmps35
   go_wp2
   go_ret
   exact ⟨by first | rfl | (simp;done) | (simp [*];done),zQ⟩
  ·rw [if_neg c3] at H
   have c3b0:(a0==2)=false:=beq_eq_false_iff_ne.mpr c3
   by_cases c4:a0=3
   ·rw [if_pos c4] at H
    have c4b0:(a0==3)=true:=beq_iff_eq.mpr c4
    clear c4
    obtain rfl:=Option.some.inj H
    go_enter Try.func35,Try.ntmps35
    go_wp2
    go_ret
    exact ⟨by first | rfl | (simp;done) | (simp [*];done),zQ⟩
   ·rw [if_neg c4] at H
    have c4b0:(a0==3)=false:=beq_eq_false_iff_ne.mpr c4
    obtain rfl:=Option.some.inj H
    go_enter Try.func35,Try.ntmps35
    go_wp2
    go_ret
    exact ⟨by first | rfl | (simp;done) | (simp [*];done),zQ⟩
abbrev Yl:List ByteArray:=[(⟨#[]⟩:ByteArray),(⟨#[99,111,110,115,116]⟩:ByteArray),(⟨#[97,100,100]⟩:ByteArray),(⟨#[115,117,98]⟩:ByteArray),(⟨#[109,117,108]⟩:ByteArray),(⟨#[100,105,118]⟩:ByteArray),(⟨#[108,116]⟩:ByteArray),(⟨#[101,113]⟩:ByteArray),(⟨#[110,105,108]⟩:ByteArray),(⟨#[115,97,109,101]⟩:ByteArray),(⟨#[110,101,119]⟩:ByteArray),(⟨#[108,111,97,100,46,105]⟩:ByteArray),(⟨#[108,111,97,100,46,112]⟩:ByteArray),(⟨#[115,116,111,114,101,46,105]⟩:ByteArray),(⟨#[115,116,111,114,101,46,112]⟩:ByteArray),(⟨#[115,108,111,116]⟩:ByteArray),(⟨#[103,101,116,46,105]⟩:ByteArray),(⟨#[103,101,116,46,112]⟩:ByteArray),(⟨#[112,117,116,46,105]⟩:ByteArray),(⟨#[112,117,116,46,112]⟩:ByteArray),(⟨#[112,104,105]⟩:ByteArray),(⟨#[99,97,108,108]⟩:ByteArray),(⟨#[111,117,116]⟩:ByteArray),(⟨#[112,111,108,108]⟩:ByteArray),(⟨#[114,101,108,111,99]⟩:ByteArray),(⟨#[109,97,114,107]⟩:ByteArray),(⟨#[98,114]⟩:ByteArray),(⟨#[105,102]⟩:ByteArray),(⟨#[114,101,116]⟩:ByteArray),(⟨#[102,97,105,108]⟩:ByteArray)]
theorem reps_str {R:ByteArray→List Value→Prop} (hR:∀ s,R s [.string s]):∀ l:List ByteArray,Reps R 1 l (l.map .string)
 | []=>Reps.none _ _
 | a::l=>Reps.one (hR a) (reps_str hR l)
def r05_word.f (a0:Int):Option (ByteArray):=(some (Yl:List ByteArray)).bind fun y206=>(if a0<1 then (some (⟨#[]⟩:ByteArray)) else (if a0>29 then (some (⟨#[]⟩:ByteArray)) else (if 0≤a0 then (if a0<(y206.length:Int) then (some (rdOf ByteArray.empty y206 a0)) else (none)) else (none))))
theorem r05_word.calls (a0:Int) (r:ByteArray) (w:World) (h:r05_word.f a0=some r):
  Calls Try.prog 70 #[.int .i64 a0] w fun e w'=>e=.returned (.string r)∧Below w.heap.size w w':=by
 have HB:=aM (Below.refl w.heap.size w)
 have H:((some (Yl:List ByteArray)).bind fun y206=>(if a0<1 then (some (⟨#[]⟩:ByteArray)) else (if a0>29 then (some (⟨#[]⟩:ByteArray)) else (if 0≤a0 then (if a0<(y206.length:Int) then (some (rdOf ByteArray.empty y206 a0)) else (none)) else (none)))))=some r:=h
 clear h
 obtain ⟨y206,hy206⟩:∃ y_:List ByteArray,y_=(Yl):=⟨_,rfl⟩
 replace H:(if a0<1 then (some (⟨#[]⟩:ByteArray)) else (if a0>29 then (some (⟨#[]⟩:ByteArray)) else (if 0≤a0 then (if a0<(y206.length:Int) then (some (rdOf ByteArray.empty y206 a0)) else (none)) else (none))))=some r:=by first | (rw [hy206];with_reducible exact H) | (have H2_:=(Option.bind_some _ _).symm.trans H;rw [hy206];with_reducible exact H2_) | (have H2_:=(Option.bind_some _ _).symm.trans H;with_reducible exact H2_) | with_reducible exact H | (rw [hy206];exact H) | exact H
 have Ny206:=aM hy206
 clear hy206
 by_cases c2:a0<1
 ·rw [if_pos c2] at H
  have c2b0:decide (a0<1)=true:=decide_eq_true c2
  clear c2
  obtain rfl:=Option.some.inj H
  go_enter Try.func70,Try.ntmps70
  go_wp2_with (first | ((with_reducible refine gate_dst (N:=4) rfl ?_);refine Kd.R_lit Kd.string _ 9 ?hg (N:=4) ?hd (xs:=Yl) (inner:=[.string (⟨#[]⟩:ByteArray),.string (⟨#[99,111,110,115,116]⟩:ByteArray),.string (⟨#[97,100,100]⟩:ByteArray),.string (⟨#[115,117,98]⟩:ByteArray),.string (⟨#[109,117,108]⟩:ByteArray),.string (⟨#[100,105,118]⟩:ByteArray),.string (⟨#[108,116]⟩:ByteArray),.string (⟨#[101,113]⟩:ByteArray),.string (⟨#[110,105,108]⟩:ByteArray),.string (⟨#[115,97,109,101]⟩:ByteArray),.string (⟨#[110,101,119]⟩:ByteArray),.string (⟨#[108,111,97,100,46,105]⟩:ByteArray),.string (⟨#[108,111,97,100,46,112]⟩:ByteArray),.string (⟨#[115,116,111,114,101,46,105]⟩:ByteArray),.string (⟨#[115,116,111,114,101,46,112]⟩:ByteArray),.string (⟨#[115,108,111,116]⟩:ByteArray),.string (⟨#[103,101,116,46,105]⟩:ByteArray),.string (⟨#[103,101,116,46,112]⟩:ByteArray),.string (⟨#[112,117,116,46,105]⟩:ByteArray),.string (⟨#[112,117,116,46,112]⟩:ByteArray),.string (⟨#[112,104,105]⟩:ByteArray),.string (⟨#[99,97,108,108]⟩:ByteArray),.string (⟨#[111,117,116]⟩:ByteArray),.string (⟨#[112,111,108,108]⟩:ByteArray),.string (⟨#[114,101,108,111,99]⟩:ByteArray),.string (⟨#[109,97,114,107]⟩:ByteArray),.string (⟨#[98,114]⟩:ByteArray),.string (⟨#[105,102]⟩:ByteArray),.string (⟨#[114,101,116]⟩:ByteArray),.string (⟨#[102,97,105,108]⟩:ByteArray)]) (ok:=fun _=>True) (okp:=fun _=>True) ?hr ?hp (fun _ hk=>hk) trivial (Below.refl _ _) (Nat.le_refl _) (by simp) ?_;(case hd=>rfl);(case hg=>rfl);(case hr=>first | (go_simp;done) | (go_simp;rfl));(case hp=>exact reps_str (R:=Kd.string.M _ _ _) (fun s=>show Kd.M Kd.string _ _ _ s [.string s] from rfl) Yl);intro v207 w3 ho4 hb hg_ hnew_;clear hg_ hnew_;(first | rw [← Ny206.out] at ho4 | (simp only [Int.reduceToNat] at ho4;rw [← Ny206.out] at ho4));have n0_:=aM (Kd.R_lower ho4 (below_size (zB HB.out)));have n1_:=aM (below_step (zB HB.out) hb);clear HB;have HO208:=n0_;have HB:=n1_;clear n0_ n1_;clear hb ho4))
  go_ret
  exact ⟨zF,zB HB.out⟩
 ·rw [if_neg c2] at H
  have c2b0:decide (a0<1)=false:=decide_eq_false c2
  clear c2
  by_cases c5:a0>29
  ·rw [if_pos c5] at H
   have c5b0:decide (29<a0)=true:=decide_eq_true c5
   clear c5
   obtain rfl:=Option.some.inj H
   go_enter Try.func70,Try.ntmps70
   go_wp2_with (first | ((with_reducible refine gate_dst (N:=4) rfl ?_);refine Kd.R_lit Kd.string _ 9 ?hg (N:=4) ?hd (xs:=Yl) (inner:=[.string (⟨#[]⟩:ByteArray),.string (⟨#[99,111,110,115,116]⟩:ByteArray),.string (⟨#[97,100,100]⟩:ByteArray),.string (⟨#[115,117,98]⟩:ByteArray),.string (⟨#[109,117,108]⟩:ByteArray),.string (⟨#[100,105,118]⟩:ByteArray),.string (⟨#[108,116]⟩:ByteArray),.string (⟨#[101,113]⟩:ByteArray),.string (⟨#[110,105,108]⟩:ByteArray),.string (⟨#[115,97,109,101]⟩:ByteArray),.string (⟨#[110,101,119]⟩:ByteArray),.string (⟨#[108,111,97,100,46,105]⟩:ByteArray),.string (⟨#[108,111,97,100,46,112]⟩:ByteArray),.string (⟨#[115,116,111,114,101,46,105]⟩:ByteArray),.string (⟨#[115,116,111,114,101,46,112]⟩:ByteArray),.string (⟨#[115,108,111,116]⟩:ByteArray),.string (⟨#[103,101,116,46,105]⟩:ByteArray),.string (⟨#[103,101,116,46,112]⟩:ByteArray),.string (⟨#[112,117,116,46,105]⟩:ByteArray),.string (⟨#[112,117,116,46,112]⟩:ByteArray),.string (⟨#[112,104,105]⟩:ByteArray),.string (⟨#[99,97,108,108]⟩:ByteArray),.string (⟨#[111,117,116]⟩:ByteArray),.string (⟨#[112,111,108,108]⟩:ByteArray),.string (⟨#[114,101,108,111,99]⟩:ByteArray),.string (⟨#[109,97,114,107]⟩:ByteArray),.string (⟨#[98,114]⟩:ByteArray),.string (⟨#[105,102]⟩:ByteArray),.string (⟨#[114,101,116]⟩:ByteArray),.string (⟨#[102,97,105,108]⟩:ByteArray)]) (ok:=fun _=>True) (okp:=fun _=>True) ?hr ?hp (fun _ hk=>hk) trivial (Below.refl _ _) (Nat.le_refl _) (by simp) ?_;(case hd=>rfl);(case hg=>rfl);(case hr=>first | (go_simp;done) | (go_simp;rfl));(case hp=>exact reps_str (R:=Kd.string.M _ _ _) (fun s=>show Kd.M Kd.string _ _ _ s [.string s] from rfl) Yl);intro v207 w6 ho7 hb hg_ hnew_;clear hg_ hnew_;(first | rw [← Ny206.out] at ho7 | (simp only [Int.reduceToNat] at ho7;rw [← Ny206.out] at ho7));have n0_:=aM (Kd.R_lower ho7 (below_size (zB HB.out)));have n1_:=aM (below_step (zB HB.out) hb);clear HB;have HO208:=n0_;have HB:=n1_;clear n0_ n1_;clear hb ho7))
   go_ret
   exact ⟨zF,zB HB.out⟩
  ·rw [if_neg c5] at H
   have c5b0:decide (29<a0)=false:=decide_eq_false c5
   clear c5
   by_cases c8:0≤a0
   ·rw [if_pos c8] at H
    have c8b0:decide (0≤a0)=true:=decide_eq_true c8
    clear c8
    by_cases c9:a0<(y206.length:Int)
    ·rw [if_pos c9] at H
     have c9b0:decide (a0<(y206.length:Int))=true:=decide_eq_true c9
     clear c9
     obtain rfl:=Option.some.inj H
     go_enter Try.func70,Try.ntmps70
     go_wp2_with (first | ((with_reducible refine gate_dst (N:=4) rfl ?_);refine Kd.R_lit Kd.string _ 9 ?hg (N:=4) ?hd (xs:=Yl) (inner:=[.string (⟨#[]⟩:ByteArray),.string (⟨#[99,111,110,115,116]⟩:ByteArray),.string (⟨#[97,100,100]⟩:ByteArray),.string (⟨#[115,117,98]⟩:ByteArray),.string (⟨#[109,117,108]⟩:ByteArray),.string (⟨#[100,105,118]⟩:ByteArray),.string (⟨#[108,116]⟩:ByteArray),.string (⟨#[101,113]⟩:ByteArray),.string (⟨#[110,105,108]⟩:ByteArray),.string (⟨#[115,97,109,101]⟩:ByteArray),.string (⟨#[110,101,119]⟩:ByteArray),.string (⟨#[108,111,97,100,46,105]⟩:ByteArray),.string (⟨#[108,111,97,100,46,112]⟩:ByteArray),.string (⟨#[115,116,111,114,101,46,105]⟩:ByteArray),.string (⟨#[115,116,111,114,101,46,112]⟩:ByteArray),.string (⟨#[115,108,111,116]⟩:ByteArray),.string (⟨#[103,101,116,46,105]⟩:ByteArray),.string (⟨#[103,101,116,46,112]⟩:ByteArray),.string (⟨#[112,117,116,46,105]⟩:ByteArray),.string (⟨#[112,117,116,46,112]⟩:ByteArray),.string (⟨#[112,104,105]⟩:ByteArray),.string (⟨#[99,97,108,108]⟩:ByteArray),.string (⟨#[111,117,116]⟩:ByteArray),.string (⟨#[112,111,108,108]⟩:ByteArray),.string (⟨#[114,101,108,111,99]⟩:ByteArray),.string (⟨#[109,97,114,107]⟩:ByteArray),.string (⟨#[98,114]⟩:ByteArray),.string (⟨#[105,102]⟩:ByteArray),.string (⟨#[114,101,116]⟩:ByteArray),.string (⟨#[102,97,105,108]⟩:ByteArray)]) (ok:=fun _=>True) (okp:=fun _=>True) ?hr ?hp (fun _ hk=>hk) trivial (Below.refl _ _) (Nat.le_refl _) (by simp) ?_;(case hd=>rfl);(case hg=>rfl);(case hr=>first | (go_simp;done) | (go_simp;rfl));(case hp=>exact reps_str (R:=Kd.string.M _ _ _) (fun s=>show Kd.M Kd.string _ _ _ s [.string s] from rfl) Yl);intro v207 w10 ho11 hb hg_ hnew_;clear hg_ hnew_;(first | rw [← Ny206.out] at ho11 | (simp only [Int.reduceToNat] at ho11;rw [← Ny206.out] at ho11));have n0_:=aM (Kd.R_lower ho11 (below_size (zB HB.out)));have n1_:=aM (below_step (zB HB.out) hb);clear HB;have HO208:=n0_;have HB:=n1_;clear n0_ n1_;clear hb ho11;obtain ⟨Ao12,co12,eo12⟩:=Kd.R_slice HO208.out;subst eo12;have p209:0≤(a0:Int):=of_decide_eq_true zS;have q209:a0<(y206.length:Int):=of_decide_eq_true zS;obtain ⟨ad209,e209,hx209_0⟩:=Kd.at_string (Kd.R_reads' HO208.out).2.2 a0 p209 q209;cases e209;replace p209:=eq_true p209;replace q209:=eq_true q209))
     go_ret
     exact ⟨zF,zB HB.out⟩
    ·rw [if_neg c9] at H
     exact absurd H (by simp)
   ·rw [if_neg c8] at H
    exact absurd H (by simp)
def r05_Word.f (a0_0:Int) (a0_1:Int) (a0_2:Int) (a0_3:Int) (l0_4:List Int) (l0_5:List Int) (a0_6:ByteArray) (a0_7:Int):Option (ByteArray):=(r05_typed.f a0_0).bind fun t211=>(if t211=true then ((r05_word.f a0_0).bind fun t212=>(if t212.size+1≤9223372036854775807 then ((r05_Letter.f a0_3).bind fun t213=>(if (t212++(⟨#[46]⟩:ByteArray)).size+t213.size≤9223372036854775807 then (some ((t212++(⟨#[46]⟩:ByteArray))++t213)) else (none))) else (none))) else ((r05_word.f a0_0).bind fun t214=>(some t214)))
def r05_Word.T2:Bool × List (List Nat × List Nat):=(true,[([],[]),([0],[0]),([1],[1]),([2],[2]),([],[]),([4],[4]),([5,2],[5]),([3,6],[3,6]),([7,6,0,1,2,3,4,5,6,7],[7])])
def r05_Word.B2:List Nat:=[0,1,3,7,0,16,55,127,255]
theorem r05_Word.tab2:rtab .any (opsOf Try.f43 2)=r05_Word.T2:=by kernel_rfl
theorem r05_Word.bits2:waitsOk r05_Word.T2.2 r05_Word.B2=true:=by kernel_rfl
theorem r05_Word.calls (a0_0:Int) (a0_1:Int) (a0_2:Int) (a0_3:Int) (A0_4:Option Addr) (c0_4:Nat) (l0_4:List Int) (A0_5:Option Addr) (c0_5:Nat) (l0_5:List Int) (a0_6:ByteArray) (a0_7:Int) (r:ByteArray) (w:World) (hr0_4:Kd.C (Kd.int .i64) w A0_4 l0_4.length l0_4) (hc0_4:l0_4.length≤c0_4) (hr0_5:Kd.C (Kd.int .i64) w A0_5 l0_5.length l0_5) (hc0_5:l0_5.length≤c0_5) (h:r05_Word.f a0_0 a0_1 a0_2 a0_3 l0_4 l0_5 a0_6 a0_7=some r):
  Calls Try.prog 43 #[.agg #[.int .i64 a0_0,.int .i64 a0_1,.int .i64 a0_2,.int .i64 a0_3,.slice A0_4 l0_4.length c0_4,.slice A0_5 l0_5.length c0_5,.string a0_6,.int .i64 a0_7]] w fun e w'=>e=.returned (.string r)∧Below w.heap.size w w':=by
 clear hr0_4 hc0_4 hr0_5 hc0_5
 have HB:=aM (Below.refl w.heap.size w)
 have H:((r05_typed.f a0_0).bind fun t211=>(if t211=true then ((r05_word.f a0_0).bind fun t212=>(if t212.size+1≤9223372036854775807 then ((r05_Letter.f a0_3).bind fun t213=>(if (t212++(⟨#[46]⟩:ByteArray)).size+t213.size≤9223372036854775807 then (some ((t212++(⟨#[46]⟩:ByteArray))++t213)) else (none))) else (none))) else ((r05_word.f a0_0).bind fun t214=>(some t214))))=some r:=h
 clear h
 replace H:=Option.bind_eq_some_iff.mp H
 obtain ⟨t211,A20,H⟩:=H
 have A2:=aM A20
 clear A20
 by_cases c3:t211=true
 ·subst c3
  have H1:((r05_word.f a0_0).bind fun t212=>(if t212.size+1≤9223372036854775807 then ((r05_Letter.f a0_3).bind fun t213=>(if (t212++(⟨#[46]⟩:ByteArray)).size+t213.size≤9223372036854775807 then (some ((t212++(⟨#[46]⟩:ByteArray))++t213)) else (none))) else (none)))=some r:=by rw [if_pos rfl] at H;exact H
  clear H
  have H:=H1
  clear H1
  replace H:=Option.bind_eq_some_iff.mp H
  obtain ⟨t212,A40,H⟩:=H
  have A4:=aM A40
  clear A40
  by_cases c5:t212.size+1≤9223372036854775807
  ·rw [if_pos c5] at H
   try have c5b2:(9223372036854775807<t212.size+1)=False:=eq_false (Nat.not_lt.2 c5)
   replace H:=Option.bind_eq_some_iff.mp H
   obtain ⟨t213,A60,H⟩:=H
   have A6:=aM A60
   clear A60
   by_cases c7:(t212++(⟨#[46]⟩:ByteArray)).size+t213.size≤9223372036854775807
   ·rw [if_pos c7] at H
    try have c7b2:(9223372036854775807<(t212++(⟨#[46]⟩:ByteArray)).size+t213.size)=False:=eq_false (Nat.not_lt.2 c7)
    try (have c7b3:=c7b2;simp only [ByteArray.size_append,show ((⟨#[46]⟩:ByteArray)).size=1 from rfl] at c7b3)
    obtain rfl:=Option.some.inj H
    go_enter Try.func43,Try.ntmps43
    try go_wp2_with (first | ((with_reducible refine gate_dst (N:=1) rfl ?_);refine box_event ?hg (N:=1) ?hd (cs:=#[.int .i64 a0_0,.int .i64 a0_1,.int .i64 a0_2,.int .i64 a0_3,.slice A0_4 l0_4.length c0_4,.slice A0_5 l0_5.length c0_5,.string a0_6,.int .i64 a0_7]) (t:=39) ?hr ?_;(case hd=>rfl);(case hg=>rfl);(case hr=>first | (go_simp;done) | (go_simp;rfl));intro gb210 hg w8 hbox hb;have n0_:=aM (below_step (zB HB.out) hb);have n1_:=aM (hbox);have n2_:=aM ((by rw [hg];exact (below_size (zB HB.out)):w.heap.size≤gb210));have n3_:=aM ((by rw [hg];exact (below_size (zB HB.out)):w.heap.size≤gb210));clear HB;have HB:=n0_;have BK210:=n1_;have GE210:=n3_;clear n0_ n1_ n2_ n3_;clear hb hbox hg;have hcz9_0:w8.cell? ⟨gb210,0,none⟩=some (.int .i64 a0_0):=(blk_cell BK210.out 0).trans rfl) | ((with_reducible refine gate_callee (f:=63) rfl ?_);refine goesL_ (some 5) rfl rfl Try.func63 (by kernel_rfl) rfl #[.int .i64 a0_0] rfl zA ?_;(with_reducible refine (r05_typed.calls a0_0 true _ A2.out).mono ?_);rintro e w' ⟨rfl,⟨nd,rfl⟩⟩;refine ⟨_,rfl,?_⟩))
    (try (rw [drewN_self w8];generalize hq_:World.drewN w8 _=w8;have n0_:Aside0 (w8.heap[gb210]?=some (.cells #[.int .i64 a0_0,.int .i64 a0_1,.int .i64 a0_2,.int .i64 a0_3,.slice A0_4 l0_4.length c0_4,.slice A0_5 l0_5.length c0_5,.string a0_6,.int .i64 a0_7] 39 (0,0))):=⟨by rw [← hq_];exact (zK BK210.out)⟩;have n1_:Aside0 (Below w.heap.size w w8):=⟨by rw [← hq_];exact (zC HB.out GE210.out)⟩;clear BK210 HB hq_;have BK210:=n0_;have HB:=n1_;clear n0_ n1_))
    have n0_:=aM (blk_drew BK210.out)
    have n1_:=aM (below_drew1 HB.out)
    clear BK210 HB
    have BK210:=n0_
    have HB:=n1_
    clear n0_ n1_
    refine start_ (n:=9) (S:=fun w'=>w'.cell? ⟨gb210,0,none⟩=some (.int .i64 a0_0)∧w'.cell? ⟨gb210,1,none⟩=some (.int .i64 a0_1)∧w'.cell? ⟨gb210,2,none⟩=some (.int .i64 a0_2)∧w'.cell? ⟨gb210,3,none⟩=some (.int .i64 a0_3)∧w'.cell? ⟨gb210,4,none⟩=some (.slice A0_4 l0_4.length c0_4)∧w'.cell? ⟨gb210,5,none⟩=some (.slice A0_5 l0_5.length c0_5)∧w'.cell? ⟨gb210,6,none⟩=some (.string a0_6)∧w'.cell? ⟨gb210,7,none⟩=some (.int .i64 a0_7)) (ds:=[]) #[false,false,false,false,false,false,false,false,false] (by kernel_rfl) rfl rfl ⟨(blk_cell BK210.out 0).trans rfl,(blk_cell BK210.out 1).trans rfl,(blk_cell BK210.out 2).trans rfl,(blk_cell BK210.out 3).trans rfl,(blk_cell BK210.out 4).trans rfl,(blk_cell BK210.out 5).trans rfl,(blk_cell BK210.out 6).trans rfl,(blk_cell BK210.out 7).trans rfl⟩ (fun hHeld=>?_);refine with_tabW r05_Word.tab2 r05_Word.bits2 (fun HT_ HW_=>?_)
    generalize w8.drew=w10 at BK210 HB hHeld ⊢
    refine pure_ (i:=0) (N:=some 6) (v:=?_) (a':=?_) #[true,false,false,false,false,false,false,false,false] rfl rfl (any_of HT_.out (by kernel_rfl)) (fun _ _ _ h=>h) (Or.inl ⟨by rfl,?_⟩) ?_ ?_
    rotate_left
    ·intro w'
     go_simp
     with_reducible rfl
    rotate_left
    ·simp only [Act.put,qA,qB,qC,i64_w,i32_w]
     rfl
    refine pure_ (i:=4) (N:=some 10) (v:=?_) (a':=?_) #[true,false,false,false,true,false,false,false,false] rfl rfl (any_of HT_.out (by kernel_rfl)) (fun _ _ _ h=>h) (Or.inl ⟨by rfl,?_⟩) ?_ ?_
    rotate_left
    ·intro w'
     go_simp
     with_reducible rfl
    rotate_left
    ·simp only [Act.put,qA,qB,qC,i64_w,i32_w]
     rfl
    refine take_ (i:=1) (N:=some 7) (v:=?_) (a':=?_) #[true,true,false,false,true,false,false,false,false] rfl rfl (take_ofW HT_.out HW_.out (by kernel_rfl)) (fun _ _ _ h=>h) (Or.inl ⟨by rfl,?_⟩) hHeld ?_ ?_
    rotate_left
    ·rintro w' ⟨s0,s1,s2,s3,s4,s5,s6,s7⟩
     go_simp
     with_reducible rfl
    rotate_left
    ·simp only [Act.put,qA,qB,qC,i64_w,i32_w]
     rfl
    refine take_ (i:=5) (N:=some 11) (v:=?_) (a':=?_) #[true,true,false,false,true,true,false,false,false] rfl rfl (take_ofW HT_.out HW_.out (by kernel_rfl)) (fun _ _ _ h=>h) (Or.inl ⟨by rfl,?_⟩) hHeld ?_ ?_
    rotate_left
    ·rintro w' ⟨s0,s1,s2,s3,s4,s5,s6,s7⟩
     go_simp
     with_reducible rfl
    rotate_left
    ·simp only [Act.put,qA,qB,qC,i64_w,i32_w]
     rfl
    refine one_ (i:=2) (N:=some 8) #[true,true,true,false,true,true,false,false,false] rfl rfl (one_of HT_.out (by kernel_rfl)) (by decide) (fun K hK=>?_)
    refine goes_ Try.func70 (by kernel_rfl) rfl #[.int .i64 a0_0] (by rfl) rfl rfl zA ?_
    with_reducible refine (r05_word.calls a0_0 t212 _ A4.out).mono ?_
    rintro e w11 ⟨rfl,hb⟩
    refine ⟨_,rfl,?_⟩
    have n0_:=aM (blk_below (g:=gb210) (o:=.cells #[.int .i64 a0_0,.int .i64 a0_1,.int .i64 a0_2,.int .i64 a0_3,.slice A0_4 l0_4.length c0_4,.slice A0_5 l0_5.length c0_5,.string a0_6,.int .i64 a0_7] 39 (0,0)) (zK BK210.out) hb)
    have n1_:=aM (below_step (zC HB.out GE210.out) hb)
    clear BK210 HB
    have BK210:=n0_
    have HB:=n1_
    clear n0_ n1_
    (try clear hb)
    (try clear hb2)
    (try clear hk)
    (try clear hi)
    refine hK.out _ _ ⟨(blk_cell BK210.out 0).trans rfl,(blk_cell BK210.out 1).trans rfl,(blk_cell BK210.out 2).trans rfl,(blk_cell BK210.out 3).trans rfl,(blk_cell BK210.out 4).trans rfl,(blk_cell BK210.out 5).trans rfl,(blk_cell BK210.out 6).trans rfl,(blk_cell BK210.out 7).trans rfl⟩ (fun hHeld=>?_)
    clear hK K
    refine norm_ (a':=?_) ?_ ?_
    rotate_left
    ·show Act.put _ (some 8) _=_
     simp only [Act.put,qA,qB,qC,i64_w,i32_w]
     rfl
    refine pure_ (i:=3) (N:=some 9) (v:=?_) (a':=?_) #[true,true,true,true,true,true,false,false,false] rfl rfl (any_of HT_.out (by kernel_rfl)) (fun _ _ _ h=>h) (Or.inl ⟨by rfl,?_⟩) ?_ ?_
    rotate_left
    ·intro w'
     go_simp
     with_reducible rfl
    rotate_left
    ·simp only [Act.put,qA,qB,qC,i64_w,i32_w]
     rfl
    refine one_ (i:=6) (N:=some 12) #[true,true,true,true,true,true,true,false,false] rfl rfl (one_of HT_.out (by kernel_rfl)) (by decide) (fun K hK=>?_)
    refine goes_ Try.func35 (by kernel_rfl) rfl #[.int .i64 a0_3] (by rfl) rfl rfl zA ?_
    with_reducible refine (r05_Letter.calls a0_3 t213 _ A6.out).mono ?_
    rintro e w' ⟨rfl,⟨nd,rfl⟩⟩
    refine ⟨_,rfl,?_⟩
    refine hK.out _ _ ⟨(blk_cell BK210.out 0).trans rfl,(blk_cell BK210.out 1).trans rfl,(blk_cell BK210.out 2).trans rfl,(blk_cell BK210.out 3).trans rfl,(blk_cell BK210.out 4).trans rfl,(blk_cell BK210.out 5).trans rfl,(blk_cell BK210.out 6).trans rfl,(blk_cell BK210.out 7).trans rfl⟩ (fun hHeld=>?_)
    clear hK K
    refine norm_ (a':=?_) ?_ ?_
    rotate_left
    ·show Act.put _ (some 12) _=_
     simp only [Act.put,qA,qB,qC,i64_w,i32_w]
     rfl
    refine pure_ (i:=7) (N:=some 13) (v:=?_) (a':=?_) #[true,true,true,true,true,true,true,true,false] rfl rfl (any_of HT_.out (by kernel_rfl)) (fun _ _ _ h=>h) (Or.inl ⟨by rfl,?_⟩) ?_ ?_
    rotate_left
    ·intro w'
     go_simp
     with_reducible rfl
    rotate_left
    ·simp only [Act.put,qA,qB,qC,i64_w,i32_w]
     rfl
    refine pure_ (i:=8) (N:=some 2) (v:=?_) (a':=?_) #[true,true,true,true,true,true,true,true,true] rfl rfl (any_of HT_.out (by kernel_rfl)) (fun _ _ _ h=>h) (Or.inl ⟨by rfl,?_⟩) ?_ ?_
    rotate_left
    ·intro w'
     go_simp
     with_reducible rfl
    rotate_left
    ·simp only [Act.put,qA,qB,qC,i64_w,i32_w]
     rfl
    refine done_ (done_of HT_.out (by kernel_rfl)) ?_
    try go_wp2
    go_ret
    exact ⟨zF,zC HB.out GE210.out⟩
   ·rw [if_neg c7] at H
    exact absurd H (by simp)
  ·rw [if_neg c5] at H
   exact absurd H (by simp)
 ·replace c3:=Bool.eq_false_iff.mpr c3
  subst c3
  have H1:((r05_word.f a0_0).bind fun t214=>(some t214))=some r:=by rw [if_neg (show ¬ (false=true) by decide)] at H;exact H
  clear H
  have H:=H1
  clear H1
  replace H:=Option.bind_eq_some_iff.mp H
  obtain ⟨t214,A120,H⟩:=H
  have A12:=aM A120
  clear A120
  obtain rfl:=Option.some.inj H
  go_enter Try.func43,Try.ntmps43
  go_wp2_with (first | ((with_reducible refine gate_dst (N:=1) rfl ?_);refine box_event ?hg (N:=1) ?hd (cs:=#[.int .i64 a0_0,.int .i64 a0_1,.int .i64 a0_2,.int .i64 a0_3,.slice A0_4 l0_4.length c0_4,.slice A0_5 l0_5.length c0_5,.string a0_6,.int .i64 a0_7]) (t:=39) ?hr ?_;(case hd=>rfl);(case hg=>rfl);(case hr=>first | (go_simp;done) | (go_simp;rfl));intro gb210 hg w13 hbox hb;have n0_:=aM (below_step (zB HB.out) hb);have n1_:=aM (hbox);have n2_:=aM ((by rw [hg];exact (below_size (zB HB.out)):w.heap.size≤gb210));have n3_:=aM ((by rw [hg];exact (below_size (zB HB.out)):w.heap.size≤gb210));clear HB;have HB:=n0_;have BK210:=n1_;have GE210:=n3_;clear n0_ n1_ n2_ n3_;clear hb hbox hg;have hcz14_0:w13.cell? ⟨gb210,0,none⟩=some (.int .i64 a0_0):=(blk_cell BK210.out 0).trans rfl) | ((with_reducible refine gate_callee (f:=63) rfl ?_);refine goesL_ (some 5) rfl rfl Try.func63 (by kernel_rfl) rfl #[.int .i64 a0_0] rfl zA ?_;(with_reducible refine (r05_typed.calls a0_0 false _ A2.out).mono ?_);rintro e w' ⟨rfl,⟨nd,rfl⟩⟩;refine ⟨_,rfl,?_⟩) | ((with_reducible refine gate_callee (f:=70) rfl ?_);refine goesL_ (some 16) rfl rfl Try.func70 (by kernel_rfl) rfl #[.int .i64 a0_0] rfl zA ?_;(with_reducible refine (r05_word.calls a0_0 t214 _ A12.out).mono ?_);rintro e w15 ⟨rfl,hb⟩;refine ⟨_,rfl,?_⟩;have n0_:=aM (blk_below (g:=gb210) (o:=.cells #[.int .i64 a0_0,.int .i64 a0_1,.int .i64 a0_2,.int .i64 a0_3,.slice A0_4 l0_4.length c0_4,.slice A0_5 l0_5.length c0_5,.string a0_6,.int .i64 a0_7] 39 (0,0)) (zK BK210.out) hb);have n1_:=aM (below_step (zC HB.out GE210.out) hb);clear BK210;clear HB;have BK210:=n0_;have HB:=n1_;clear n0_ n1_;(try clear hb);(try clear hb2);(try clear hk);(try clear hi)))
  go_ret
  exact ⟨zF,zC HB.out GE210.out⟩
end Go.Proofs.Ytkjdblbgmomieaa.PSh
end
