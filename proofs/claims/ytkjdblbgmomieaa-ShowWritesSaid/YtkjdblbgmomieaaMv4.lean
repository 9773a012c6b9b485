import Derived.Test.YtkjdblbgmomieaaMv2
import Derived.Test.YtkjdblbgmomieaaMv3
section
namespace Go.Proofs.Ytkjdblbgmomieaa.PSh
set_option maxHeartbeats 8000000
set_option maxRecDepth 100000
open Go.RowKit Go.Proofs.YtkjdblbgmomieaaW.PrintWords Go.Proofs.YtkjdblbgmomieaaW.PrintLast Go.Proofs.YtkjdblbgmomieaaW.PrintMore Go.Proofs.Ytkjdblbgmomieaa.Zip
attribute [local go_sem] max2_int min2_int max_two min_two max_three min_three max_four min_four   -- for this text's walks alone
set_option linter.unusedVariables false
set_option linter.unusedSimpArgs false
def r02_in.l0:Nat→Int→ByteArray→Int→Option (Bool)
 | 0,_,_,_=>none
 | k+1,x0,x1,x5=>if x5<(x1.size:Int) then (if 0≤x5 then (if (bt x1 x5)=x0 then (some true) else (r02_in.l0 k x0 x1 (wrap64 (x5+1)))) else (none)) else (some false)
def r02_in.f (k:Nat) (a0:Int) (a1:ByteArray):Option (Bool):=r02_in.l0 k a0 a1 0
theorem r02_in.calls (k:Nat) (a0:Int) (a1:ByteArray) (r:Bool) (w:World) (h:r02_in.f k a0 a1=some r):
  Calls Try.prog 82 #[.int .u8 a0,.string a1] w fun e w'=>e=.returned (.bool r)∧Drawn0 w w':=by
 have H:(r02_in.l0 k a0 a1 0)=some r:=h
 clear h
 have H':=aM H
 clear H
 go_enter Try.func82,Try.ntmps82
 go_wp2
 go_loopg [5] k (fun kq v5 w'=>∃ (x5_1:Int),v5=.int .i64 x5_1∧Aside0 (r02_in.l0 kq a0 a1 x5_1=some r)∧Aside0 (kq≤k)∧Drawn0 w w')
 case atStart=>exact ⟨(0),(by first | rfl | (simp;done) | (simp [*];done)),H',⟨Nat.le_refl _⟩,zQ⟩
 case round=>
  clear H'
  obtain ⟨x5_1,rfl,HA,HK1,⟨m1,rfl⟩⟩:=hrel
  cases gk with
  | zero=>exact absurd HA.out (by simp [r02_in.l0])
  | succ k1=>
   have H:=HA.out
   clear HA
   simp only [r02_in.l0] at H
   by_cases c3:x5_1<(a1.size:Int)
   ·rw [if_pos c3] at H
    have c3b0:decide (x5_1<(a1.size:Int))=true:=decide_eq_true c3
    clear c3
    by_cases c4:0≤x5_1
    ·rw [if_pos c4] at H
     have c4b0:decide (0≤x5_1)=true:=decide_eq_true c4
     clear c4
     by_cases c6:(bt a1 x5_1)=a0
     ·rw [if_pos c6] at H
      have c6b0:((bt a1 x5_1)==a0)=true:=beq_iff_eq.mpr c6
      clear c6
      obtain rfl:=Option.some.inj H
      have p5:0≤(x5_1:Int):=of_decide_eq_true zS
      have q5:x5_1<(a1.size:Int):=of_decide_eq_true zS
      have hx5:=bt_at a1 x5_1
      replace p5:=eq_true p5
      replace q5:=eq_true q5
      go_wp2
      go_ret
      exact ⟨by first | rfl | (simp;done) | (simp [*];done),zQ⟩
     ·rw [if_neg c6] at H
      have c6b0:((bt a1 x5_1)==a0)=false:=beq_eq_false_iff_ne.mpr c6
      have H':=aM H
      clear H
      have p5:0≤(x5_1:Int):=of_decide_eq_true zS
      have q5:x5_1<(a1.size:Int):=of_decide_eq_true zS
      have hx5:=bt_at a1 x5_1
      replace p5:=eq_true p5
      replace q5:=eq_true q5
      go_wp2
      go_roundg k1
      case measure=>have:=HK1.out;omega
      case rel=>exact ⟨(wrap64 (x5_1+1)),(by first | rfl | (simp;done) | (simp [*];done)),H',⟨by have:=HK1.out;omega⟩,zQ⟩
    ·rw [if_neg c4] at H
     exact absurd H (by simp)
   ·rw [if_neg c3] at H
    have c3b0:decide (x5_1<(a1.size:Int))=false:=decide_eq_false c3
    clear c3
    obtain rfl:=Option.some.inj H
    go_wp2
    go_ret
    exact ⟨by first | rfl | (simp;done) | (simp [*];done),zQ⟩
def r02_letter.f (k:Nat) (a0:Int):Option (Bool):=if a0≥97 then (if a0≤122 then (some true) else (if a0≥65 then (if a0≤90 then (some true) else (if a0≥48 then (if a0≤57 then (some true) else ((r02_in.f k a0 (⟨#[46,37,64,45,95]⟩:ByteArray)).bind fun t260=>(some t260))) else ((r02_in.f k a0 (⟨#[46,37,64,45,95]⟩:ByteArray)).bind fun t261=>(some t261)))) else (if a0≥48 then (if a0≤57 then (some true) else ((r02_in.f k a0 (⟨#[46,37,64,45,95]⟩:ByteArray)).bind fun t262=>(some t262))) else ((r02_in.f k a0 (⟨#[46,37,64,45,95]⟩:ByteArray)).bind fun t263=>(some t263))))) else (if a0≥65 then (if a0≤90 then (some true) else (if a0≥48 then (if a0≤57 then (some true) else ((r02_in.f k a0 (⟨#[46,37,64,45,95]⟩:ByteArray)).bind fun t264=>(some t264))) else ((r02_in.f k a0 (⟨#[46,37,64,45,95]⟩:ByteArray)).bind fun t265=>(some t265)))) else (if a0≥48 then (if a0≤57 then (some true) else ((r02_in.f k a0 (⟨#[46,37,64,45,95]⟩:ByteArray)).bind fun t266=>(some t266))) else ((r02_in.f k a0 (⟨#[46,37,64,45,95]⟩:ByteArray)).bind fun t267=>(some t267))))
theorem r02_letter.calls (k:Nat) (a0:Int) (r:Bool) (w:World) (h:r02_letter.f k a0=some r):
  Calls Try.prog 83 #[.int .u8 a0] w fun e w'=>e=.returned (.bool r)∧Drawn0 w w':=by
 have H:(if a0≥97 then (if a0≤122 then (some true) else (if a0≥65 then (if a0≤90 then (some true) else (if a0≥48 then (if a0≤57 then (some true) else ((r02_in.f k a0 (⟨#[46,37,64,45,95]⟩:ByteArray)).bind fun t260=>(some t260))) else ((r02_in.f k a0 (⟨#[46,37,64,45,95]⟩:ByteArray)).bind fun t261=>(some t261)))) else (if a0≥48 then (if a0≤57 then (some true) else ((r02_in.f k a0 (⟨#[46,37,64,45,95]⟩:ByteArray)).bind fun t262=>(some t262))) else ((r02_in.f k a0 (⟨#[46,37,64,45,95]⟩:ByteArray)).bind fun t263=>(some t263))))) else (if a0≥65 then (if a0≤90 then (some true) else (if a0≥48 then (if a0≤57 then (some true) else ((r02_in.f k a0 (⟨#[46,37,64,45,95]⟩:ByteArray)).bind fun t264=>(some t264))) else ((r02_in.f k a0 (⟨#[46,37,64,45,95]⟩:ByteArray)).bind fun t265=>(some t265)))) else (if a0≥48 then (if a0≤57 then (some true) else ((r02_in.f k a0 (⟨#[46,37,64,45,95]⟩:ByteArray)).bind fun t266=>(some t266))) else ((r02_in.f k a0 (⟨#[46,37,64,45,95]⟩:ByteArray)).bind fun t267=>(some t267)))))=some r:=h
 clear h
 by_cases c2:a0≥97
 ·rw [if_pos c2] at H
  have c2b0:decide (97≤a0)=true:=decide_eq_true c2
  clear c2
  by_cases c3:a0≤122
  ·rw [if_pos c3] at H
   have c3b0:decide (a0≤122)=true:=decide_eq_true c3
   clear c3
   obtain rfl:=Option.some.inj H
   go_enter Try.func83,Try.ntmps83
   go_wp2
   go_ret
   exact ⟨by first | rfl | (simp;done) | (simp [*];done),zQ⟩
  ·rw [if_neg c3] at H
   have c3b0:decide (a0≤122)=false:=decide_eq_false c3
   clear c3
   by_cases c4:a0≥65
   ·rw [if_pos c4] at H
    have c4b0:decide (65≤a0)=true:=decide_eq_true c4
    clear c4
    by_cases c5:a0≤90
    ·rw [if_pos c5] at H
     have c5b0:decide (a0≤90)=true:=decide_eq_true c5
     clear c5
     obtain rfl:=Option.some.inj H
     go_enter Try.func83,Try.ntmps83
     go_wp2
     go_ret
     exact ⟨by first | rfl | (simp;done) | (simp [*];done),zQ⟩
    ·rw [if_neg c5] at H
     have c5b0:decide (a0≤90)=false:=decide_eq_false c5
     clear c5
     by_cases c6:a0≥48
     ·rw [if_pos c6] at H
      have c6b0:decide (48≤a0)=true:=decide_eq_true c6
      clear c6
      by_cases c7:a0≤57
      ·rw [if_pos c7] at H
       have c7b0:decide (a0≤57)=true:=decide_eq_true c7
       clear c7
       obtain rfl:=Option.some.inj H
       go_enter Try.func83,Try.ntmps83
       go_wp2
       go_ret
       exact ⟨by first | rfl | (simp;done) | (simp [*];done),zQ⟩
      ·rw [if_neg c7] at H
       have c7b0:decide (a0≤57)=false:=decide_eq_false c7
       clear c7
       replace H:=Option.bind_eq_some_iff.mp H
       obtain ⟨t260,A80,H⟩:=H
       have A8:=aM A80
       clear A80
       obtain rfl:=Option.some.inj H
       go_enter Try.func83,Try.ntmps83
       go_wp2_with (first | (go_at_call 82;(with_reducible refine (r02_in.calls k a0 (⟨#[46,37,64,45,95]⟩:ByteArray) t260 _ A8.out).mono ?_);rintro e w' ⟨rfl,⟨nd,rfl⟩⟩))
       go_ret
       exact ⟨by first | rfl | (simp;done) | (simp [*];done),zQ⟩
     ·rw [if_neg c6] at H
      have c6b0:decide (48≤a0)=false:=decide_eq_false c6
      clear c6
      replace H:=Option.bind_eq_some_iff.mp H
      obtain ⟨t261,A90,H⟩:=H
      have A9:=aM A90
      clear A90
      obtain rfl:=Option.some.inj H
      go_enter Try.func83,Try.ntmps83
      go_wp2_with (first | (go_at_call 82;(with_reducible refine (r02_in.calls k a0 (⟨#[46,37,64,45,95]⟩:ByteArray) t261 _ A9.out).mono ?_);rintro e w' ⟨rfl,⟨nd,rfl⟩⟩))
      go_ret
      exact ⟨by first | rfl | (simp;done) | (simp [*];done),zQ⟩
   ·rw [if_neg c4] at H
    have c4b0:decide (65≤a0)=false:=decide_eq_false c4
    clear c4
    by_cases c10:a0≥48
    ·rw [if_pos c10] at H
     have c10b0:decide (48≤a0)=true:=decide_eq_true c10
     clear c10
     by_cases c11:a0≤57
     ·rw [if_pos c11] at H
      have c11b0:decide (a0≤57)=true:=decide_eq_true c11
      clear c11
      obtain rfl:=Option.some.inj H
      go_enter Try.func83,Try.ntmps83
      go_wp2
      go_ret
      exact ⟨by first | rfl | (simp;done) | (simp [*];done),zQ⟩
     ·rw [if_neg c11] at H
      have c11b0:decide (a0≤57)=false:=decide_eq_false c11
      clear c11
      replace H:=Option.bind_eq_some_iff.mp H
      obtain ⟨t262,A120,H⟩:=H
      have A12:=aM A120
      clear A120
      obtain rfl:=Option.some.inj H
      go_enter Try.func83,Try.ntmps83
      go_wp2_with (first | (go_at_call 82;(with_reducible refine (r02_in.calls k a0 (⟨#[46,37,64,45,95]⟩:ByteArray) t262 _ A12.out).mono ?_);rintro e w' ⟨rfl,⟨nd,rfl⟩⟩))
      go_ret
      exact ⟨by first | rfl | (simp;done) | (simp [*];done),zQ⟩
    ·rw [if_neg c10] at H
     have c10b0:decide (48≤a0)=false:=decide_eq_false c10
     clear c10
     replace H:=Option.bind_eq_some_iff.mp H
     obtain ⟨t263,A130,H⟩:=H
     have A13:=aM A130
     clear A130
     obtain rfl:=Option.some.inj H
     go_enter Try.func83,Try.ntmps83
     go_wp2_with (first | (go_at_call 82;(with_reducible refine (r02_in.calls k a0 (⟨#[46,37,64,45,95]⟩:ByteArray) t263 _ A13.out).mono ?_);rintro e w' ⟨rfl,⟨nd,rfl⟩⟩))
     go_ret
     exact ⟨by first | rfl | (simp;done) | (simp [*];done),zQ⟩
 ·rw [if_neg c2] at H
  have c2b0:decide (97≤a0)=false:=decide_eq_false c2
  clear c2
  by_cases c14:a0≥65
  ·rw [if_pos c14] at H
   have c14b0:decide (65≤a0)=true:=decide_eq_true c14
   clear c14
   by_cases c15:a0≤90
   ·rw [if_pos c15] at H
    have c15b0:decide (a0≤90)=true:=decide_eq_true c15
    clear c15
    obtain rfl:=Option.some.inj H
    go_enter Try.func83,Try.ntmps83
    go_wp2
    go_ret
    exact ⟨by first | rfl | (simp;done) | (simp [*];done),zQ⟩
   ·rw [if_neg c15] at H
    have c15b0:decide (a0≤90)=false:=decide_eq_false c15
    clear c15
    by_cases c16:a0≥48
    ·rw [if_pos c16] at H
     have c16b0:decide (48≤a0)=true:=decide_eq_true c16
     clear c16
     by_cases c17:a0≤57
     ·rw [if_pos c17] at H
      have c17b0:decide (a0≤57)=true:=decide_eq_true c17
      clear c17
      obtain rfl:=Option.some.inj H
      go_enter Try.func83,Try.ntmps83
      go_wp2
      go_ret
      exact ⟨by first | rfl | (simp;done) | (simp [*];done),zQ⟩
     ·rw [if_neg c17] at H
      have c17b0:decide (a0≤57)=false:=decide_eq_false c17
      clear c17
      replace H:=Option.bind_eq_some_iff.mp H
      obtain ⟨t264,A180,H⟩:=H
      have A18:=aM A180
      clear A180
      obtain rfl:=Option.some.inj H
      go_enter Try.func83,Try.ntmps83
      go_wp2_with (first | (go_at_call 82;(with_reducible refine (r02_in.calls k a0 (⟨#[46,37,64,45,95]⟩:ByteArray) t264 _ A18.out).mono ?_);rintro e w' ⟨rfl,⟨nd,rfl⟩⟩))
      go_ret
      exact ⟨by first | rfl | (simp;done) | (simp [*];done),zQ⟩
    ·rw [if_neg c16] at H
     have c16b0:decide (48≤a0)=false:=decide_eq_false c16
     clear c16
     replace H:=Option.bind_eq_some_iff.mp H
     obtain ⟨t265,A190,H⟩:=H
     have A19:=aM A190
     clear A190
     obtain rfl:=Option.some.inj H
     go_enter Try.func83,Try.ntmps83
     go_wp2_with (first | (go_at_call 82;(with_reducible refine (r02_in.calls k a0 (⟨#[46,37,64,45,95]⟩:ByteArray) t265 _ A19.out).mono ?_);rintro e w' ⟨rfl,⟨nd,rfl⟩⟩))
     go_ret
     exact ⟨by first | rfl | (simp;done) | (simp [*];done),zQ⟩
  ·rw [if_neg c14] at H
   have c14b0:decide (65≤a0)=false:=decide_eq_false c14
   clear c14
   by_cases c20:a0≥48
   ·rw [if_pos c20] at H
    have c20b0:decide (48≤a0)=true:=decide_eq_true c20
    clear c20
    by_cases c21:a0≤57
    ·rw [if_pos c21] at H
     have c21b0:decide (a0≤57)=true:=decide_eq_true c21
     clear c21
     obtain rfl:=Option.some.inj H
     go_enter Try.func83,Try.ntmps83
     go_wp2
     go_ret
     exact ⟨by first | rfl | (simp;done) | (simp [*];done),zQ⟩
    ·rw [if_neg c21] at H
     have c21b0:decide (a0≤57)=false:=decide_eq_false c21
     clear c21
     replace H:=Option.bind_eq_some_iff.mp H
     obtain ⟨t266,A220,H⟩:=H
     have A22:=aM A220
     clear A220
     obtain rfl:=Option.some.inj H
     go_enter Try.func83,Try.ntmps83
     go_wp2_with (first | (go_at_call 82;(with_reducible refine (r02_in.calls k a0 (⟨#[46,37,64,45,95]⟩:ByteArray) t266 _ A22.out).mono ?_);rintro e w' ⟨rfl,⟨nd,rfl⟩⟩))
     go_ret
     exact ⟨by first | rfl | (simp;done) | (simp [*];done),zQ⟩
   ·rw [if_neg c20] at H
    have c20b0:decide (48≤a0)=false:=decide_eq_false c20
    clear c20
    replace H:=Option.bind_eq_some_iff.mp H
    obtain ⟨t267,A230,H⟩:=H
    have A23:=aM A230
    clear A230
    obtain rfl:=Option.some.inj H
    go_enter Try.func83,Try.ntmps83
    go_wp2_with (first | (go_at_call 82;(with_reducible refine (r02_in.calls k a0 (⟨#[46,37,64,45,95]⟩:ByteArray) t267 _ A23.out).mono ?_);rintro e w' ⟨rfl,⟨nd,rfl⟩⟩))
    go_ret
    exact ⟨by first | rfl | (simp;done) | (simp [*];done),zQ⟩
end Go.Proofs.Ytkjdblbgmomieaa.PSh
end
