import Derived.Test.YtkjdblbgmomieaaMv2
import Derived.Test.YtkjdblbgmomieaaMv6
import Derived.Test.YtkjdblbgmomieaaMv7
import Derived.Test.YtkjdblbgmomieaaMv5
import Derived.Test.YtkjdblbgmomieaaMv9
import Derived.Test.YtkjdblbgmomieaaMv3
section
namespace Go.Proofs.Ytkjdblbgmomieaa.PSh
set_option maxHeartbeats 8000000
set_option maxRecDepth 100000
open Go.RowKit Go.Proofs.YtkjdblbgmomieaaW.PrintWords Go.Proofs.YtkjdblbgmomieaaW.PrintLast Go.Proofs.YtkjdblbgmomieaaW.PrintMore Go.Proofs.Ytkjdblbgmomieaa.Zip
attribute [local go_sem] max2_int min2_int max_two min_two max_three min_three max_four min_four   -- for this text's walks alone
set_option linter.unusedVariables false
set_option linter.unusedSimpArgs false
mutual
def r05_Find.l0:Nat→ByteArray→Int→Option (Int × Int)
 | 0,_,_=>none
 | k+1,x0,x4=>if x4≤29 then (r05_Find.l1 k x0 x4 0) else (some (0,0))
def r05_Find.l1:Nat→ByteArray→Int→Int→Option (Int × Int)
 | 0,_,_,_=>none
 | k+1,x0,x4,x5=>if x5≤3 then ((r05_May.f x4 x5).bind fun t342=>(if t342=true then ((r05_Word.f x4 0 0 x5 ([]:List Int) ([]:List Int) (⟨#[]⟩:ByteArray) 0).bind fun t343=>(if t343.toList=x0.toList then (some (x4,x5)) else (r05_Find.l1 k x0 x4 (wrap64 (x5+1))))) else (r05_Find.l1 k x0 x4 (wrap64 (x5+1))))) else (r05_Find.l0 k x0 (wrap64 (x4+1)))
end
def r05_Find.f (k:Nat) (a0:ByteArray):Option (Int × Int):=if a0.toList=([]:List UInt8) then (some (0,0)) else (r05_Find.l0 k a0 1)
theorem r05_Find.calls (k:Nat) (a0:ByteArray) (r1:Int) (r2:Int) (w:World) (h:r05_Find.f k a0=some (r1,r2)):
  Calls Try.prog 102 #[.string a0] w fun e w'=>e=.returned (.tuple #[.int .i64 r1,.int .i64 r2])∧Below w.heap.size w w':=by
 have HB:=aM (Below.refl w.heap.size w)
 have H:(if a0.toList=([]:List UInt8) then (some (0,0)) else (r05_Find.l0 k a0 1))=some (r1,r2):=h
 clear h
 by_cases c2:a0.toList=([]:List UInt8)
 ·rw [if_pos c2] at H
  have c2b0:(a0.toList==([]:List UInt8))=true:=beq_iff_eq.mpr c2
  clear c2
  simp only [Option.some.injEq,Prod.mk.injEq] at H
  obtain ⟨rfl,rfl⟩:=H
  go_enter Try.func102,Try.ntmps102
  go_wp2
  go_ret2
  exact ⟨zF,zB HB.out⟩
 ·rw [if_neg c2] at H
  have c2b0:(a0.toList==([]:List UInt8))=false:=beq_eq_false_iff_ne.mpr c2
  have H':=aM H
  clear H
  go_enter Try.func102,Try.ntmps102
  go_wp2
  go_loopg [4] k (fun kq v4 w'=>∃ (x4_1:Int),v4=.int .i64 x4_1∧Aside0 (r05_Find.l0 kq a0 x4_1=some (r1,r2))∧Aside0 (kq≤k)∧Aside0 (Below w.heap.size w w'))
  case atStart=>exact ⟨(1),(by first | rfl | (simp;done) | (simp [*];done)),H',⟨Nat.le_refl _⟩,⟨zB HB.out⟩⟩
  case round=>
   clear H' c2 c2b0
   obtain ⟨x4_1,rfl,HA,HK1,HB⟩:=hrel
   cases gk with
   | zero=>exact absurd HA.out (by simp [r05_Find.l0])
   | succ k1=>
    have H:=HA.out
    clear HA
    simp only [r05_Find.l0] at H
    by_cases c3:x4_1≤29
    ·rw [if_pos c3] at H
     have c3b0:decide (x4_1≤29)=true:=decide_eq_true c3
     clear c3
     have H':=aM H
     clear H
     go_wp2
     go_loopg [5] k1 (fun kq v5 w'=>∃ (x5_2:Int),v5=.int .i64 x5_2∧Aside0 (r05_Find.l1 kq a0 x4_1 x5_2=some (r1,r2))∧Aside0 (kq≤k1)∧Aside0 (Below w.heap.size w w'))
     case atStart=>exact ⟨(0),(by first | rfl | (simp;done) | (simp [*];done)),H',⟨Nat.le_refl _⟩,⟨zB HB.out⟩⟩
     case round=>
      clear H' c3b0
      obtain ⟨x5_2,rfl,HA,HK2,HB⟩:=hrel
      cases gk with
      | zero=>exact absurd HA.out (by simp [r05_Find.l1])
      | succ k2=>
       have H:=HA.out
       clear HA
       simp only [r05_Find.l1] at H
       by_cases c4:x5_2≤3
       ·rw [if_pos c4] at H
        have c4b0:decide (x5_2≤3)=true:=decide_eq_true c4
        clear c4
        replace H:=Option.bind_eq_some_iff.mp H
        obtain ⟨t342,A50,H⟩:=H
        have A5:=aM A50
        clear A50
        by_cases c6:t342=true
        ·subst c6
         have H1:((r05_Word.f x4_1 0 0 x5_2 ([]:List Int) ([]:List Int) (⟨#[]⟩:ByteArray) 0).bind fun t343=>(if t343.toList=a0.toList then (some (x4_1,x5_2)) else (r05_Find.l1 k2 a0 x4_1 (wrap64 (x5_2+1)))))=some (r1,r2):=by rw [if_pos rfl] at H;exact H
         clear H
         have H:=H1
         clear H1
         replace H:=Option.bind_eq_some_iff.mp H
         obtain ⟨t343,A70,H⟩:=H
         have A7:=aM A70
         clear A70
         by_cases c8:t343.toList=a0.toList
         ·rw [if_pos c8] at H
          have c8b0:(t343.toList==a0.toList)=true:=beq_iff_eq.mpr c8
          clear c8
          simp only [Option.some.injEq,Prod.mk.injEq] at H
          obtain ⟨rfl,rfl⟩:=H
          go_wp2_with (first | ((with_reducible refine gate_callee (f:=50) rfl ?_);refine goesL_ (some 18) rfl rfl Try.func50 (by kernel_rfl) rfl #[.int .i64 x4_1,.int .i64 x5_2] rfl zA ?_;(with_reducible refine (r05_May.calls x4_1 x5_2 true _ A5.out).mono ?_);rintro e w' ⟨rfl,⟨nd,rfl⟩⟩;refine ⟨_,rfl,?_⟩) | (go_at_call 43;(refine (r05_Word.calls x4_1 0 0 x5_2 _ _ ([]:List Int) _ _ ([]:List Int) (⟨#[]⟩:ByteArray) 0 t343 _ ?side1 ?side2 ?side3 ?side4 A7.out).mono ?_);(case side1=>exact Kd.C_nil _ _);(case side2=>exact Nat.le_refl _);(case side3=>exact Kd.C_nil _ _);(case side4=>exact Nat.le_refl _);rintro e w9 ⟨rfl,hb⟩;have n0_:=aM (below_step (zB HB.out) hb);clear HB;have HB:=n0_;clear n0_;(try clear hb);(try clear hb2);(try clear hk);(try clear hi)))
          go_ret2
          exact ⟨zF,zB HB.out⟩
         ·rw [if_neg c8] at H
          have c8b0:(t343.toList==a0.toList)=false:=beq_eq_false_iff_ne.mpr c8
          have H':=aM H
          clear H
          go_wp2_with (first | ((with_reducible refine gate_callee (f:=50) rfl ?_);refine goesL_ (some 18) rfl rfl Try.func50 (by kernel_rfl) rfl #[.int .i64 x4_1,.int .i64 x5_2] rfl zA ?_;(with_reducible refine (r05_May.calls x4_1 x5_2 true _ A5.out).mono ?_);rintro e w' ⟨rfl,⟨nd,rfl⟩⟩;refine ⟨_,rfl,?_⟩) | (go_at_call 43;(refine (r05_Word.calls x4_1 0 0 x5_2 _ _ ([]:List Int) _ _ ([]:List Int) (⟨#[]⟩:ByteArray) 0 t343 _ ?side1 ?side2 ?side3 ?side4 A7.out).mono ?_);(case side1=>exact Kd.C_nil _ _);(case side2=>exact Nat.le_refl _);(case side3=>exact Kd.C_nil _ _);(case side4=>exact Nat.le_refl _);rintro e w10 ⟨rfl,hb⟩;have n0_:=aM (below_step (zB HB.out) hb);clear HB;have HB:=n0_;clear n0_;(try clear hb);(try clear hb2);(try clear hk);(try clear hi)))
          go_roundg k2
          case measure=>have:=HK1.out;have:=HK2.out;omega
          case rel=>exact ⟨(wrap64 (x5_2+1)),(by first | rfl | (simp;done) | (simp [*];done)),H',⟨by have:=HK1.out;have:=HK2.out;omega⟩,⟨zB HB.out⟩⟩
        ·replace c6:=Bool.eq_false_iff.mpr c6
         subst c6
         have H1:(r05_Find.l1 k2 a0 x4_1 (wrap64 (x5_2+1)))=some (r1,r2):=by rw [if_neg (show ¬ (false=true) by decide)] at H;exact H
         clear H
         have H:=H1
         clear H1
         have H':=aM H
         clear H
         go_wp2_with (first | ((with_reducible refine gate_callee (f:=50) rfl ?_);refine goesL_ (some 18) rfl rfl Try.func50 (by kernel_rfl) rfl #[.int .i64 x4_1,.int .i64 x5_2] rfl zA ?_;(with_reducible refine (r05_May.calls x4_1 x5_2 false _ A5.out).mono ?_);rintro e w' ⟨rfl,⟨nd,rfl⟩⟩;refine ⟨_,rfl,?_⟩))
         go_roundg k2
         case measure=>have:=HK1.out;have:=HK2.out;omega
         case rel=>exact ⟨(wrap64 (x5_2+1)),(by first | rfl | (simp;done) | (simp [*];done)),H',⟨by have:=HK1.out;have:=HK2.out;omega⟩,⟨zB HB.out⟩⟩
       ·rw [if_neg c4] at H
        have c4b0:decide (x5_2≤3)=false:=decide_eq_false c4
        clear c4
        have H':=aM H
        clear H
        go_wp2
        go_roundg k2
        case measure=>have:=HK1.out;have:=HK2.out;omega
        case rel=>exact ⟨(wrap64 (x4_1+1)),(by first | rfl | (simp;done) | (simp [*];done)),H',⟨by have:=HK1.out;have:=HK2.out;omega⟩,⟨zB HB.out⟩⟩
    ·rw [if_neg c3] at H
     have c3b0:decide (x4_1≤29)=false:=decide_eq_false c3
     clear c3
     simp only [Option.some.injEq,Prod.mk.injEq] at H
     obtain ⟨rfl,rfl⟩:=H
     go_wp2
     go_ret2
     exact ⟨zF,zB HB.out⟩
def r06_Reader_number.j0:Nat→Int→Int→Bool→List (S101)→Int→Int→Int→Int→Int→Option (Int × Int × Int × Int × Int × Int)
 | 0,_,_,_,_,_,_,_,_,_=>none
 | k+1,x7,x8,x26,x1000,x1001,x1002,x1003,x1004,x1005=>if x26=true then (if 18=0 then (some (x7,wrap64 (x1001+1),x1002,x1003,x1004,x1005)) else ((r06_Reader_fail.f x1000 x1001 x1002 x1003 x1004 x1005 18).bind fun bt352=>(some (0,bt352.1,bt352.2.1,bt352.2.2.1,bt352.2.2.2.1,bt352.2.2.2.2)))) else (if x8=0 then (some (x7,wrap64 (x1001+1),x1002,x1003,x1004,x1005)) else ((r06_Reader_fail.f x1000 x1001 x1002 x1003 x1004 x1005 x8).bind fun bt357=>(some (0,bt357.1,bt357.2.1,bt357.2.2.1,bt357.2.2.2.1,bt357.2.2.2.2))))
def r06_Reader_number.f (k:Nat) (s0_0:List (S101)) (s0_1:Int) (s0_2:Int) (s0_3:Int) (s0_4:Int) (s0_5:Int) (a1:Int) (a2:Int):Option (Int × Int × Int × Int × Int × Int):=(r06_Reader_peek.f s0_0 s0_1 s0_2 s0_3 s0_4 s0_5 0).bind fun bt344=>((r01_Parse.f k bt344.1).bind fun bt350=>(if bt350.2=0 then (if bt350.1<a1 then (r06_Reader_number.j0 k bt350.1 bt350.2 true s0_0 bt344.2.1 bt344.2.2.1 bt344.2.2.2.1 bt344.2.2.2.2.1 bt344.2.2.2.2.2) else (r06_Reader_number.j0 k bt350.1 bt350.2 (decide (bt350.1>a2)) s0_0 bt344.2.1 bt344.2.2.1 bt344.2.2.2.1 bt344.2.2.2.2.1 bt344.2.2.2.2.2)) else (r06_Reader_number.j0 k bt350.1 bt350.2 false s0_0 bt344.2.1 bt344.2.2.1 bt344.2.2.2.1 bt344.2.2.2.2.1 bt344.2.2.2.2.2)))
theorem r06_Reader_number.calls (k:Nat) (g:Nat) (s0_0:List (S101)) (s0_1:Int) (s0_2:Int) (s0_3:Int) (s0_4:Int) (s0_5:Int) (a1:Int) (a2:Int) (r1:Int) (r2:Int) (r3:Int) (r4:Int) (r5:Int) (r6:Int) (w0 w:World) (hI:IsS89 w0 w g s0_0 s0_1 s0_2 s0_3 s0_4 s0_5) (hB:Below w0.heap.size w0 w) (h:r06_Reader_number.f k s0_0 s0_1 s0_2 s0_3 s0_4 s0_5 a1 a2=some (r1,r2,r3,r4,r5,r6)):
  Calls Try.prog 110 #[.pointer (some ⟨g,0,none⟩),.int .i64 a1,.int .i64 a2] w fun e w'=>e=.returned (.int .i64 r1)∧IsS89 w0 w' g s0_0 r2 r3 r4 r5 r6∧Below w0.heap.size w0 w'∧KeepBut w w' g none:=by
 have HI0:=aM hI
 have HK:=aM (KeepBut.refl w g none)
 clear hI
 have HB:=aM hB
 clear hB
 have H:((r06_Reader_peek.f s0_0 s0_1 s0_2 s0_3 s0_4 s0_5 0).bind fun bt344=>((r01_Parse.f k bt344.1).bind fun bt350=>(if bt350.2=0 then (if bt350.1<a1 then (r06_Reader_number.j0 k bt350.1 bt350.2 true s0_0 bt344.2.1 bt344.2.2.1 bt344.2.2.2.1 bt344.2.2.2.2.1 bt344.2.2.2.2.2) else (r06_Reader_number.j0 k bt350.1 bt350.2 (decide (bt350.1>a2)) s0_0 bt344.2.1 bt344.2.2.1 bt344.2.2.2.1 bt344.2.2.2.2.1 bt344.2.2.2.2.2)) else (r06_Reader_number.j0 k bt350.1 bt350.2 false s0_0 bt344.2.1 bt344.2.2.1 bt344.2.2.2.1 bt344.2.2.2.2.1 bt344.2.2.2.2.2))))=some (r1,r2,r3,r4,r5,r6):=h
 clear h
 replace H:=Option.bind_eq_some_iff.mp H
 obtain ⟨⟨t344,t345,t346,t347,t348,t349⟩,A40,H⟩:=H
 have A4:=aM A40
 clear A40
 replace H:=Option.bind_eq_some_iff.mp H
 obtain ⟨⟨t350,t351⟩,A50,H⟩:=H
 have A5:=aM A50
 clear A50
 have HC6:=aM H
 clear H
 go_enter Try.func110,Try.ntmps110
 go_upto_region 2 with (first | ((with_reducible refine gate_callee (f:=86) rfl ?_);refine goesL_ (some 11) rfl rfl Try.func86 (by kernel_rfl) rfl #[.pointer (some ⟨g,0,none⟩),.int .i64 0] rfl zA ?_;(with_reducible refine (r06_Reader_peek.calls g s0_0 s0_1 s0_2 s0_3 s0_4 s0_5 0 t344 t345 t346 t347 t348 t349 w0 _ ?side1 ?side2 A4.out).mono ?_);(case side1=>repeat (first | (with_reducible first | exact HI0.out | apply IsS89.alloc | apply IsS89.drewN | apply IsS89.drew | apply IsS89.set_1 | apply IsS89.set_2 | apply IsS89.set_3 | apply IsS89.set_4 | apply IsS89.set_5) | exact HI0.out));(case side2=>repeat (first | (with_reducible first | exact HB.out | apply below_alloc | apply pw_below_drewN | apply below_drew1 | refine below_set ?_ (IsS89.ge HI0.out)) | exact HB.out));rintro e w7 ⟨rfl,hi,hb,hk⟩;refine ⟨_,rfl,?_⟩;have n0_:=aM (KeepBut.trans (by repeat (first | (with_reducible first | exact HK.out | apply KeepBut.set_ | apply keep_drewN | apply keep_drew | apply keep_alloc) | exact HK.out)) hk (.inl rfl));have n1_:=aM (hb);have n2_:=aM (hi);clear HK;clear HB;clear HI0;have HK:=n0_;have HB:=n1_;have HI0:=n2_;clear n0_ n1_ n2_;(try clear hb);(try clear hb2);(try clear hk);(try clear hi)) | ((with_reducible refine gate_callee (f:=119) rfl ?_);refine goesL_ (some 12) rfl rfl Try.func119 (by kernel_rfl) rfl #[.string t344] rfl zA ?_;(with_reducible refine (r01_Parse.calls k t344 t350 t351 _ A5.out).mono ?_);rintro e w' ⟨rfl,⟨nd,rfl⟩⟩;refine ⟨_,rfl,?_⟩))
 (try simp only [Act.put,qA,qB,qC])
 go_cut [26] (fun v26 wc=>∃ (kq:Nat) (x26_5:Bool),v26=.bool x26_5∧Aside0 (r06_Reader_number.j0 kq t350 t351 x26_5 s0_0 t345 t346 t347 t348 t349=some (r1,r2,r3,r4,r5,r6))∧Aside0 (kq≤k)∧Aside0 (IsS89 w0 wc g s0_0 t345 t346 t347 t348 t349)∧Aside0 (KeepBut w wc g none)∧Aside0 (Below w0.heap.size w0 wc))
 case first=>
  have H:=HC6.out
  clear HC6
  by_cases c8:t351=0
  ·rw [if_pos c8] at H
   have c8b0:(t351==0)=true:=beq_iff_eq.mpr c8
   clear c8
   (first | rw [c8b0] | (simp only [i64_w,i32_w];rw [c8b0]) | skip)
   by_cases c9:t350<a1
   ·rw [if_pos c9] at H
    have c9b0:decide (t350<a1)=true:=decide_eq_true c9
    clear c9
    have H':=aM H
    clear H
    go_wp2
    go_meet
    case rel=>exact ⟨_,(true),(by first | rfl | (simp;done) | (simp [*];done)),H',⟨by first | omega | exact Nat.le_refl _⟩,⟨by repeat (first | (with_reducible first | exact HI0.out | apply IsS89.alloc | apply IsS89.drewN | apply IsS89.drew | apply IsS89.set_1 | apply IsS89.set_2 | apply IsS89.set_3 | apply IsS89.set_4 | apply IsS89.set_5) | exact HI0.out)⟩,⟨by repeat (first | (with_reducible first | exact HK.out | apply KeepBut.set_ | apply keep_drewN | apply keep_drew | apply keep_alloc) | exact HK.out)⟩,⟨zC HB.out (IsS89.ge HI0.out)⟩⟩
   ·rw [if_neg c9] at H
    have c9b0:decide (t350<a1)=false:=decide_eq_false c9
    clear c9
    have H':=aM H
    clear H
    go_wp2
    go_meet
    case rel=>exact ⟨_,(decide (t350>a2)),(by first | rfl | (simp;done) | (simp [*];done)),H',⟨by first | omega | exact Nat.le_refl _⟩,⟨by repeat (first | (with_reducible first | exact HI0.out | apply IsS89.alloc | apply IsS89.drewN | apply IsS89.drew | apply IsS89.set_1 | apply IsS89.set_2 | apply IsS89.set_3 | apply IsS89.set_4 | apply IsS89.set_5) | exact HI0.out)⟩,⟨by repeat (first | (with_reducible first | exact HK.out | apply KeepBut.set_ | apply keep_drewN | apply keep_drew | apply keep_alloc) | exact HK.out)⟩,⟨zC HB.out (IsS89.ge HI0.out)⟩⟩
  ·rw [if_neg c8] at H
   have c8b0:(t351==0)=false:=beq_eq_false_iff_ne.mpr c8
   (first | rw [c8b0] | (simp only [i64_w,i32_w];rw [c8b0]) | skip)
   have H':=aM H
   clear H
   go_wp2
   go_meet
   case rel=>exact ⟨_,(false),(by first | rfl | (simp;done) | (simp [*];done)),H',⟨by first | omega | exact Nat.le_refl _⟩,⟨by repeat (first | (with_reducible first | exact HI0.out | apply IsS89.alloc | apply IsS89.drewN | apply IsS89.drew | apply IsS89.set_1 | apply IsS89.set_2 | apply IsS89.set_3 | apply IsS89.set_4 | apply IsS89.set_5) | exact HI0.out)⟩,⟨by repeat (first | (with_reducible first | exact HK.out | apply KeepBut.set_ | apply keep_drewN | apply keep_drew | apply keep_alloc) | exact HK.out)⟩,⟨zC HB.out (IsS89.ge HI0.out)⟩⟩
 case rest=>
  clear HC6
  obtain ⟨kq,x26_5,rfl,HA,HJ5,HI0,HK,HB⟩:=hcut
  cases kq with
  | zero=>exact absurd HA.out (by simp [r06_Reader_number.j0])
  | succ kj5=>
   have H:=HA.out
   clear HA
   simp only [r06_Reader_number.j0] at H
   by_cases c10:x26_5=true
   ·subst c10
    have H1:(if 18=0 then (some (t350,wrap64 (t345+1),t346,t347,t348,t349)) else ((r06_Reader_fail.f s0_0 t345 t346 t347 t348 t349 18).bind fun bt352=>(some (0,bt352.1,bt352.2.1,bt352.2.2.1,bt352.2.2.2.1,bt352.2.2.2.2))))=some (r1,r2,r3,r4,r5,r6):=by rw [if_pos rfl] at H;exact H
    clear H
    have H:=H1
    clear H1
    by_cases c11:18=0
    ·exact absurd c11 (by decide)
    ·rw [if_neg c11] at H
     replace H:=Option.bind_eq_some_iff.mp H
     obtain ⟨⟨t352,t353,t354,t355,t356⟩,A130,H⟩:=H
     have A13:=aM A130
     clear A130
     simp only [Option.some.injEq,Prod.mk.injEq] at H
     obtain ⟨rfl,rfl,rfl,rfl,rfl,rfl⟩:=H
     go_wp2_with (first | ((with_reducible refine gate_callee (f:=61) rfl ?_);refine goesL_ (some 31) rfl rfl Try.func61 (by kernel_rfl) rfl #[.pointer (some ⟨g,0,none⟩),.int .i64 18] rfl zA ?_;(with_reducible refine (r06_Reader_fail.calls g s0_0 t345 t346 t347 t348 t349 18 t352 t353 t354 t355 t356 w0 _ ?side1 ?side2 A13.out).mono ?_);(case side1=>repeat (first | (with_reducible first | exact HI0.out | apply IsS89.alloc | apply IsS89.drewN | apply IsS89.drew | apply IsS89.set_1 | apply IsS89.set_2 | apply IsS89.set_3 | apply IsS89.set_4 | apply IsS89.set_5) | exact HI0.out));(case side2=>repeat (first | (with_reducible first | exact HB.out | apply below_alloc | apply pw_below_drewN | apply below_drew1 | refine below_set ?_ (IsS89.ge HI0.out)) | exact HB.out));rintro e w14 ⟨rfl,hi,hb,hk⟩;refine ⟨_,rfl,?_⟩;have n0_:=aM (KeepBut.trans (by repeat (first | (with_reducible first | exact HK.out | apply KeepBut.set_ | apply keep_drewN | apply keep_drew | apply keep_alloc) | exact HK.out)) hk (.inl rfl));have n1_:=aM (hb);have n2_:=aM (hi);clear HK;clear HB;clear HI0;have HK:=n0_;have HB:=n1_;have HI0:=n2_;clear n0_ n1_ n2_;(try clear hb);(try clear hb2);(try clear hk);(try clear hi)))
     go_ret
     exact ⟨zF,by repeat (first | (with_reducible first | exact HI0.out | apply IsS89.alloc | apply IsS89.drewN | apply IsS89.drew | apply IsS89.set_1 | apply IsS89.set_2 | apply IsS89.set_3 | apply IsS89.set_4 | apply IsS89.set_5) | exact HI0.out),zC HB.out (IsS89.ge HI0.out),by repeat (first | (with_reducible first | exact HK.out | apply KeepBut.set_ | apply keep_drewN | apply keep_drew | apply keep_alloc) | exact HK.out)⟩
   ·replace c10:=Bool.eq_false_iff.mpr c10
    subst c10
    have H1:(if t351=0 then (some (t350,wrap64 (t345+1),t346,t347,t348,t349)) else ((r06_Reader_fail.f s0_0 t345 t346 t347 t348 t349 t351).bind fun bt357=>(some (0,bt357.1,bt357.2.1,bt357.2.2.1,bt357.2.2.2.1,bt357.2.2.2.2))))=some (r1,r2,r3,r4,r5,r6):=by rw [if_neg (show ¬ (false=true) by decide)] at H;exact H
    clear H
    have H:=H1
    clear H1
    by_cases c15:t351=0
    ·rw [if_pos c15] at H
     have c15b1:(t351 !=0)=false:=bne_eq_false_iff_eq.mpr c15
     clear c15
     simp only [Option.some.injEq,Prod.mk.injEq] at H
     obtain ⟨rfl,rfl,rfl,rfl,rfl,rfl⟩:=H
     obtain ⟨ASz16_0,cSz16_0,HGz16,hgz16,HSz16_0⟩:=HI0.out
     have hcz16_1:=cellS89_1 HGz16
     have hfz16_1:=blk_frozen HGz16 1
     clear HGz16 hgz16
     go_wp2
     go_ret
     exact ⟨zF,by repeat (first | (with_reducible first | exact HI0.out | apply IsS89.alloc | apply IsS89.drewN | apply IsS89.drew | apply IsS89.set_1 | apply IsS89.set_2 | apply IsS89.set_3 | apply IsS89.set_4 | apply IsS89.set_5) | exact HI0.out),zC HB.out (IsS89.ge HI0.out),by repeat (first | (with_reducible first | exact HK.out | apply KeepBut.set_ | apply keep_drewN | apply keep_drew | apply keep_alloc) | exact HK.out)⟩
    ·rw [if_neg c15] at H
     have c15b1:(t351 !=0)=true:=bne_iff_ne.mpr c15
     replace H:=Option.bind_eq_some_iff.mp H
     obtain ⟨⟨t357,t358,t359,t360,t361⟩,A170,H⟩:=H
     have A17:=aM A170
     clear A170
     simp only [Option.some.injEq,Prod.mk.injEq] at H
     obtain ⟨rfl,rfl,rfl,rfl,rfl,rfl⟩:=H
     go_wp2_with (first | ((with_reducible refine gate_callee (f:=61) rfl ?_);refine goesL_ (some 31) rfl rfl Try.func61 (by kernel_rfl) rfl #[.pointer (some ⟨g,0,none⟩),.int .i64 t351] rfl zA ?_;(with_reducible refine (r06_Reader_fail.calls g s0_0 t345 t346 t347 t348 t349 t351 t357 t358 t359 t360 t361 w0 _ ?side1 ?side2 A17.out).mono ?_);(case side1=>repeat (first | (with_reducible first | exact HI0.out | apply IsS89.alloc | apply IsS89.drewN | apply IsS89.drew | apply IsS89.set_1 | apply IsS89.set_2 | apply IsS89.set_3 | apply IsS89.set_4 | apply IsS89.set_5) | exact HI0.out));(case side2=>repeat (first | (with_reducible first | exact HB.out | apply below_alloc | apply pw_below_drewN | apply below_drew1 | refine below_set ?_ (IsS89.ge HI0.out)) | exact HB.out));rintro e w18 ⟨rfl,hi,hb,hk⟩;refine ⟨_,rfl,?_⟩;have n0_:=aM (KeepBut.trans (by repeat (first | (with_reducible first | exact HK.out | apply KeepBut.set_ | apply keep_drewN | apply keep_drew | apply keep_alloc) | exact HK.out)) hk (.inl rfl));have n1_:=aM (hb);have n2_:=aM (hi);clear HK;clear HB;clear HI0;have HK:=n0_;have HB:=n1_;have HI0:=n2_;clear n0_ n1_ n2_;(try clear hb);(try clear hb2);(try clear hk);(try clear hi)))
     go_ret
     exact ⟨zF,by repeat (first | (with_reducible first | exact HI0.out | apply IsS89.alloc | apply IsS89.drewN | apply IsS89.drew | apply IsS89.set_1 | apply IsS89.set_2 | apply IsS89.set_3 | apply IsS89.set_4 | apply IsS89.set_5) | exact HI0.out),zC HB.out (IsS89.ge HI0.out),by repeat (first | (with_reducible first | exact HK.out | apply KeepBut.set_ | apply keep_drewN | apply keep_drew | apply keep_alloc) | exact HK.out)⟩
def r06_Reader_pair.f (s0_0:List (S101)) (s0_1:Int) (s0_2:Int) (s0_3:Int) (s0_4:Int) (s0_5:Int):Option (Bool × Int × Int × Int × Int × Int):=(r06_Reader_peek.f s0_0 s0_1 s0_2 s0_3 s0_4 s0_5 0).bind fun bt362=>(if bt362.1.toList=([]:List UInt8) then (some (false,bt362.2.1,bt362.2.2.1,bt362.2.2.2.1,bt362.2.2.2.2.1,bt362.2.2.2.2.2)) else (if 0<(bt362.1.size:Int) then (if (bt bt362.1 0)=98 then (if bt362.1.toList=([98,114]:List UInt8) then (some (false,bt362.2.1,bt362.2.2.1,bt362.2.2.2.1,bt362.2.2.2.2.1,bt362.2.2.2.2.2)) else ((r06_Reader_peek.f s0_0 bt362.2.1 bt362.2.2.1 bt362.2.2.2.1 bt362.2.2.2.2.1 bt362.2.2.2.2.2 1).bind fun bt368=>(some ((bt368.1.toList !=([58]:List UInt8)),bt368.2.1,bt368.2.2.1,bt368.2.2.2.1,bt368.2.2.2.2.1,bt368.2.2.2.2.2)))) else (some (false,bt362.2.1,bt362.2.2.1,bt362.2.2.2.1,bt362.2.2.2.2.1,bt362.2.2.2.2.2))) else (none)))
theorem r06_Reader_pair.calls (g:Nat) (s0_0:List (S101)) (s0_1:Int) (s0_2:Int) (s0_3:Int) (s0_4:Int) (s0_5:Int) (r1:Bool) (r2:Int) (r3:Int) (r4:Int) (r5:Int) (r6:Int) (w0 w:World) (hI:IsS89 w0 w g s0_0 s0_1 s0_2 s0_3 s0_4 s0_5) (hB:Below w0.heap.size w0 w) (h:r06_Reader_pair.f s0_0 s0_1 s0_2 s0_3 s0_4 s0_5=some (r1,r2,r3,r4,r5,r6)):
  Calls Try.prog 120 #[.pointer (some ⟨g,0,none⟩)] w fun e w'=>e=.returned (.bool r1)∧IsS89 w0 w' g s0_0 r2 r3 r4 r5 r6∧Below w0.heap.size w0 w'∧KeepBut w w' g none:=by
 have HI0:=aM hI
 have HK:=aM (KeepBut.refl w g none)
 clear hI
 have HB:=aM hB
 clear hB
 have H:((r06_Reader_peek.f s0_0 s0_1 s0_2 s0_3 s0_4 s0_5 0).bind fun bt362=>(if bt362.1.toList=([]:List UInt8) then (some (false,bt362.2.1,bt362.2.2.1,bt362.2.2.2.1,bt362.2.2.2.2.1,bt362.2.2.2.2.2)) else (if 0<(bt362.1.size:Int) then (if (bt bt362.1 0)=98 then (if bt362.1.toList=([98,114]:List UInt8) then (some (false,bt362.2.1,bt362.2.2.1,bt362.2.2.2.1,bt362.2.2.2.2.1,bt362.2.2.2.2.2)) else ((r06_Reader_peek.f s0_0 bt362.2.1 bt362.2.2.1 bt362.2.2.2.1 bt362.2.2.2.2.1 bt362.2.2.2.2.2 1).bind fun bt368=>(some ((bt368.1.toList !=([58]:List UInt8)),bt368.2.1,bt368.2.2.1,bt368.2.2.2.1,bt368.2.2.2.2.1,bt368.2.2.2.2.2)))) else (some (false,bt362.2.1,bt362.2.2.1,bt362.2.2.2.1,bt362.2.2.2.2.1,bt362.2.2.2.2.2))) else (none))))=some (r1,r2,r3,r4,r5,r6):=h
 clear h
 replace H:=Option.bind_eq_some_iff.mp H
 obtain ⟨⟨t362,t363,t364,t365,t366,t367⟩,A20,H⟩:=H
 have A2:=aM A20
 clear A20
 by_cases c3:t362.toList=([]:List UInt8)
 ·rw [if_pos c3] at H
  have c3b0:(t362.toList==([]:List UInt8))=true:=beq_iff_eq.mpr c3
  clear c3
  simp only [Option.some.injEq,Prod.mk.injEq] at H
  obtain ⟨rfl,rfl,rfl,rfl,rfl,rfl⟩:=H
  go_enter Try.func120,Try.ntmps120
  go_wp2_with (first | ((with_reducible refine gate_callee (f:=86) rfl ?_);refine goesL_ (some 5) rfl rfl Try.func86 (by kernel_rfl) rfl #[.pointer (some ⟨g,0,none⟩),.int .i64 0] rfl zA ?_;(with_reducible refine (r06_Reader_peek.calls g s0_0 s0_1 s0_2 s0_3 s0_4 s0_5 0 t362 t363 t364 t365 t366 t367 w0 _ ?side1 ?side2 A2.out).mono ?_);(case side1=>repeat (first | (with_reducible first | exact HI0.out | apply IsS89.alloc | apply IsS89.drewN | apply IsS89.drew | apply IsS89.set_1 | apply IsS89.set_2 | apply IsS89.set_3 | apply IsS89.set_4 | apply IsS89.set_5) | exact HI0.out));(case side2=>repeat (first | (with_reducible first | exact HB.out | apply below_alloc | apply pw_below_drewN | apply below_drew1 | refine below_set ?_ (IsS89.ge HI0.out)) | exact HB.out));rintro e w4 ⟨rfl,hi,hb,hk⟩;refine ⟨_,rfl,?_⟩;have n0_:=aM (KeepBut.trans (by repeat (first | (with_reducible first | exact HK.out | apply KeepBut.set_ | apply keep_drewN | apply keep_drew | apply keep_alloc) | exact HK.out)) hk (.inl rfl));have n1_:=aM (hb);have n2_:=aM (hi);clear HK;clear HB;clear HI0;have HK:=n0_;have HB:=n1_;have HI0:=n2_;clear n0_ n1_ n2_;(try clear hb);(try clear hb2);(try clear hk);(try clear hi)))
  go_ret
  exact ⟨zF,by repeat (first | (with_reducible first | exact HI0.out | apply IsS89.alloc | apply IsS89.drewN | apply IsS89.drew | apply IsS89.set_1 | apply IsS89.set_2 | apply IsS89.set_3 | apply IsS89.set_4 | apply IsS89.set_5) | exact HI0.out),zC HB.out (IsS89.ge HI0.out),by repeat (first | (with_reducible first | exact HK.out | apply KeepBut.set_ | apply keep_drewN | apply keep_drew | apply keep_alloc) | exact HK.out)⟩
 ·rw [if_neg c3] at H
  have c3b0:(t362.toList==([]:List UInt8))=false:=beq_eq_false_iff_ne.mpr c3
  by_cases c5:0<(t362.size:Int)
  ·rw [if_pos c5] at H
   have c5b0:decide (0<(t362.size:Int))=true:=decide_eq_true c5
   clear c5
   by_cases c7:(bt t362 0)=98
   ·rw [if_pos c7] at H
    have c7b0:((bt t362 0)==98)=true:=beq_iff_eq.mpr c7
    clear c7
    by_cases c8:t362.toList=([98,114]:List UInt8)
    ·rw [if_pos c8] at H
     have c8b0:(t362.toList==([98,114]:List UInt8))=true:=beq_iff_eq.mpr c8
     clear c8
     simp only [Option.some.injEq,Prod.mk.injEq] at H
     obtain ⟨rfl,rfl,rfl,rfl,rfl,rfl⟩:=H
     go_enter Try.func120,Try.ntmps120
     go_wp2_with (first | ((with_reducible refine gate_callee (f:=86) rfl ?_);refine goesL_ (some 5) rfl rfl Try.func86 (by kernel_rfl) rfl #[.pointer (some ⟨g,0,none⟩),.int .i64 0] rfl zA ?_;(with_reducible refine (r06_Reader_peek.calls g s0_0 s0_1 s0_2 s0_3 s0_4 s0_5 0 t362 t363 t364 t365 t366 t367 w0 _ ?side1 ?side2 A2.out).mono ?_);(case side1=>repeat (first | (with_reducible first | exact HI0.out | apply IsS89.alloc | apply IsS89.drewN | apply IsS89.drew | apply IsS89.set_1 | apply IsS89.set_2 | apply IsS89.set_3 | apply IsS89.set_4 | apply IsS89.set_5) | exact HI0.out));(case side2=>repeat (first | (with_reducible first | exact HB.out | apply below_alloc | apply pw_below_drewN | apply below_drew1 | refine below_set ?_ (IsS89.ge HI0.out)) | exact HB.out));rintro e w9 ⟨rfl,hi,hb,hk⟩;refine ⟨_,rfl,?_⟩;have n0_:=aM (KeepBut.trans (by repeat (first | (with_reducible first | exact HK.out | apply KeepBut.set_ | apply keep_drewN | apply keep_drew | apply keep_alloc) | exact HK.out)) hk (.inl rfl));have n1_:=aM (hb);have n2_:=aM (hi);clear HK;clear HB;clear HI0;have HK:=n0_;have HB:=n1_;have HI0:=n2_;clear n0_ n1_ n2_;(try clear hb);(try clear hb2);(try clear hk);(try clear hi);have q6:0<t362.size:=(by have:(0:Int)<(t362.size:Int):=of_decide_eq_true zS;omega);have hx6:∀ h:0<t362.size,((t362[0]'h).toNat:Int)=bt t362 0:=bt_at t362 0;replace q6:=eq_true q6))
     go_ret
     exact ⟨zF,by repeat (first | (with_reducible first | exact HI0.out | apply IsS89.alloc | apply IsS89.drewN | apply IsS89.drew | apply IsS89.set_1 | apply IsS89.set_2 | apply IsS89.set_3 | apply IsS89.set_4 | apply IsS89.set_5) | exact HI0.out),zC HB.out (IsS89.ge HI0.out),by repeat (first | (with_reducible first | exact HK.out | apply KeepBut.set_ | apply keep_drewN | apply keep_drew | apply keep_alloc) | exact HK.out)⟩
    ·rw [if_neg c8] at H
     have c8b0:(t362.toList==([98,114]:List UInt8))=false:=beq_eq_false_iff_ne.mpr c8
     replace H:=Option.bind_eq_some_iff.mp H
     obtain ⟨⟨t368,t369,t370,t371,t372,t373⟩,A100,H⟩:=H
     have A10:=aM A100
     clear A100
     simp only [Option.some.injEq,Prod.mk.injEq] at H
     obtain ⟨rfl,rfl,rfl,rfl,rfl,rfl⟩:=H
     go_enter Try.func120,Try.ntmps120
     go_wp2_with (first | ((with_reducible refine gate_callee (f:=86) rfl ?_);refine goesL_ (some 5) rfl rfl Try.func86 (by kernel_rfl) rfl #[.pointer (some ⟨g,0,none⟩),.int .i64 0] rfl zA ?_;(with_reducible refine (r06_Reader_peek.calls g s0_0 s0_1 s0_2 s0_3 s0_4 s0_5 0 t362 t363 t364 t365 t366 t367 w0 _ ?side1 ?side2 A2.out).mono ?_);(case side1=>repeat (first | (with_reducible first | exact HI0.out | apply IsS89.alloc | apply IsS89.drewN | apply IsS89.drew | apply IsS89.set_1 | apply IsS89.set_2 | apply IsS89.set_3 | apply IsS89.set_4 | apply IsS89.set_5) | exact HI0.out));(case side2=>repeat (first | (with_reducible first | exact HB.out | apply below_alloc | apply pw_below_drewN | apply below_drew1 | refine below_set ?_ (IsS89.ge HI0.out)) | exact HB.out));rintro e w11 ⟨rfl,hi,hb,hk⟩;refine ⟨_,rfl,?_⟩;have n0_:=aM (KeepBut.trans (by repeat (first | (with_reducible first | exact HK.out | apply KeepBut.set_ | apply keep_drewN | apply keep_drew | apply keep_alloc) | exact HK.out)) hk (.inl rfl));have n1_:=aM (hb);have n2_:=aM (hi);clear HK;clear HB;clear HI0;have HK:=n0_;have HB:=n1_;have HI0:=n2_;clear n0_ n1_ n2_;(try clear hb);(try clear hb2);(try clear hk);(try clear hi);have q6:0<t362.size:=(by have:(0:Int)<(t362.size:Int):=of_decide_eq_true zS;omega);have hx6:∀ h:0<t362.size,((t362[0]'h).toNat:Int)=bt t362 0:=bt_at t362 0;replace q6:=eq_true q6) | (go_at_call 86;(with_reducible refine (r06_Reader_peek.calls g s0_0 t363 t364 t365 t366 t367 1 t368 t369 t370 t371 t372 t373 w0 _ ?side1 ?side2 A10.out).mono ?_);(case side1=>repeat (first | (with_reducible first | exact HI0.out | apply IsS89.alloc | apply IsS89.drewN | apply IsS89.drew | apply IsS89.set_1 | apply IsS89.set_2 | apply IsS89.set_3 | apply IsS89.set_4 | apply IsS89.set_5) | exact HI0.out));(case side2=>repeat (first | (with_reducible first | exact HB.out | apply below_alloc | apply pw_below_drewN | apply below_drew1 | refine below_set ?_ (IsS89.ge HI0.out)) | exact HB.out));rintro e w12 ⟨rfl,hi,hb,hk⟩;have n0_:=aM (KeepBut.trans (by repeat (first | (with_reducible first | exact HK.out | apply KeepBut.set_ | apply keep_drewN | apply keep_drew | apply keep_alloc) | exact HK.out)) hk (.inl rfl));have n1_:=aM (hb);have n2_:=aM (hi);clear HK;clear HB;clear HI0;have HK:=n0_;have HB:=n1_;have HI0:=n2_;clear n0_ n1_ n2_;(try clear hb);(try clear hb2);(try clear hk);(try clear hi)))
     go_ret
     exact ⟨zF,by repeat (first | (with_reducible first | exact HI0.out | apply IsS89.alloc | apply IsS89.drewN | apply IsS89.drew | apply IsS89.set_1 | apply IsS89.set_2 | apply IsS89.set_3 | apply IsS89.set_4 | apply IsS89.set_5) | exact HI0.out),zC HB.out (IsS89.ge HI0.out),by repeat (first | (with_reducible first | exact HK.out | apply KeepBut.set_ | apply keep_drewN | apply keep_drew | apply keep_alloc) | exact HK.out)⟩
   ·rw [if_neg c7] at H
    have c7b0:((bt t362 0)==98)=false:=beq_eq_false_iff_ne.mpr c7
    simp only [Option.some.injEq,Prod.mk.injEq] at H
    obtain ⟨rfl,rfl,rfl,rfl,rfl,rfl⟩:=H
    go_enter Try.func120,Try.ntmps120
    go_wp2_with (first | ((with_reducible refine gate_callee (f:=86) rfl ?_);refine goesL_ (some 5) rfl rfl Try.func86 (by kernel_rfl) rfl #[.pointer (some ⟨g,0,none⟩),.int .i64 0] rfl zA ?_;(with_reducible refine (r06_Reader_peek.calls g s0_0 s0_1 s0_2 s0_3 s0_4 s0_5 0 t362 t363 t364 t365 t366 t367 w0 _ ?side1 ?side2 A2.out).mono ?_);(case side1=>repeat (first | (with_reducible first | exact HI0.out | apply IsS89.alloc | apply IsS89.drewN | apply IsS89.drew | apply IsS89.set_1 | apply IsS89.set_2 | apply IsS89.set_3 | apply IsS89.set_4 | apply IsS89.set_5) | exact HI0.out));(case side2=>repeat (first | (with_reducible first | exact HB.out | apply below_alloc | apply pw_below_drewN | apply below_drew1 | refine below_set ?_ (IsS89.ge HI0.out)) | exact HB.out));rintro e w13 ⟨rfl,hi,hb,hk⟩;refine ⟨_,rfl,?_⟩;have n0_:=aM (KeepBut.trans (by repeat (first | (with_reducible first | exact HK.out | apply KeepBut.set_ | apply keep_drewN | apply keep_drew | apply keep_alloc) | exact HK.out)) hk (.inl rfl));have n1_:=aM (hb);have n2_:=aM (hi);clear HK;clear HB;clear HI0;have HK:=n0_;have HB:=n1_;have HI0:=n2_;clear n0_ n1_ n2_;(try clear hb);(try clear hb2);(try clear hk);(try clear hi);have q6:0<t362.size:=(by have:(0:Int)<(t362.size:Int):=of_decide_eq_true zS;omega);have hx6:∀ h:0<t362.size,((t362[0]'h).toNat:Int)=bt t362 0:=bt_at t362 0;replace q6:=eq_true q6))
    go_ret
    exact ⟨zF,by repeat (first | (with_reducible first | exact HI0.out | apply IsS89.alloc | apply IsS89.drewN | apply IsS89.drew | apply IsS89.set_1 | apply IsS89.set_2 | apply IsS89.set_3 | apply IsS89.set_4 | apply IsS89.set_5) | exact HI0.out),zC HB.out (IsS89.ge HI0.out),by repeat (first | (with_reducible first | exact HK.out | apply KeepBut.set_ | apply keep_drewN | apply keep_drew | apply keep_alloc) | exact HK.out)⟩
  ·rw [if_neg c5] at H
   exact absurd H (by simp)
def r06_Reader_label.f (k:Nat) (s0_0:List (S101)) (s0_1:Int) (s0_2:Int) (s0_3:Int) (s0_4:Int) (s0_5:Int):Option (Int × Int × Int × Int × Int × Int):=(r06_Reader_index.f k s0_0 s0_1 s0_2 s0_3 s0_4 s0_5 98 255 7).bind fun bt374=>(some (bt374.1,bt374.2.1,bt374.2.2.1,bt374.2.2.2.1,bt374.2.2.2.2.1,bt374.2.2.2.2.2))
theorem r06_Reader_label.calls (k:Nat) (g:Nat) (s0_0:List (S101)) (s0_1:Int) (s0_2:Int) (s0_3:Int) (s0_4:Int) (s0_5:Int) (r1:Int) (r2:Int) (r3:Int) (r4:Int) (r5:Int) (r6:Int) (w0 w:World) (hI:IsS89 w0 w g s0_0 s0_1 s0_2 s0_3 s0_4 s0_5) (hB:Below w0.heap.size w0 w) (h:r06_Reader_label.f k s0_0 s0_1 s0_2 s0_3 s0_4 s0_5=some (r1,r2,r3,r4,r5,r6)):
  Calls Try.prog 121 #[.pointer (some ⟨g,0,none⟩)] w fun e w'=>e=.returned (.int .i64 r1)∧IsS89 w0 w' g s0_0 r2 r3 r4 r5 r6∧Below w0.heap.size w0 w'∧KeepBut w w' g none:=by
 have HI0:=aM hI
 have HK:=aM (KeepBut.refl w g none)
 clear hI
 have HB:=aM hB
 clear hB
 have H:((r06_Reader_index.f k s0_0 s0_1 s0_2 s0_3 s0_4 s0_5 98 255 7).bind fun bt374=>(some (bt374.1,bt374.2.1,bt374.2.2.1,bt374.2.2.2.1,bt374.2.2.2.2.1,bt374.2.2.2.2.2)))=some (r1,r2,r3,r4,r5,r6):=h
 clear h
 replace H:=Option.bind_eq_some_iff.mp H
 obtain ⟨⟨t374,t375,t376,t377,t378,t379⟩,A20,H⟩:=H
 have A2:=aM A20
 clear A20
 simp only [Option.some.injEq,Prod.mk.injEq] at H
 obtain ⟨rfl,rfl,rfl,rfl,rfl,rfl⟩:=H
 go_enter Try.func121,Try.ntmps121
 go_wp2_with (first | ((with_reducible refine gate_callee (f:=109) rfl ?_);refine goesL_ (some 4) rfl rfl Try.func109 (by kernel_rfl) rfl #[.pointer (some ⟨g,0,none⟩),.int .u8 98,.int .i64 255,.int .i64 7] rfl zA ?_;(with_reducible refine (r06_Reader_index.calls k g s0_0 s0_1 s0_2 s0_3 s0_4 s0_5 98 255 7 t374 t375 t376 t377 t378 t379 w0 _ ?side1 ?side2 A2.out).mono ?_);(case side1=>repeat (first | (with_reducible first | exact HI0.out | apply IsS89.alloc | apply IsS89.drewN | apply IsS89.drew | apply IsS89.set_1 | apply IsS89.set_2 | apply IsS89.set_3 | apply IsS89.set_4 | apply IsS89.set_5) | exact HI0.out));(case side2=>repeat (first | (with_reducible first | exact HB.out | apply below_alloc | apply pw_below_drewN | apply below_drew1 | refine below_set ?_ (IsS89.ge HI0.out)) | exact HB.out));rintro e w3 ⟨rfl,hi,hb,hk⟩;refine ⟨_,rfl,?_⟩;have n0_:=aM (KeepBut.trans (by repeat (first | (with_reducible first | exact HK.out | apply KeepBut.set_ | apply keep_drewN | apply keep_drew | apply keep_alloc) | exact HK.out)) hk (.inl rfl));have n1_:=aM (hb);have n2_:=aM (hi);clear HK;clear HB;clear HI0;have HK:=n0_;have HB:=n1_;have HI0:=n2_;clear n0_ n1_ n2_;(try clear hb);(try clear hb2);(try clear hk);(try clear hi)))
 go_ret
 exact ⟨zF,by repeat (first | (with_reducible first | exact HI0.out | apply IsS89.alloc | apply IsS89.drewN | apply IsS89.drew | apply IsS89.set_1 | apply IsS89.set_2 | apply IsS89.set_3 | apply IsS89.set_4 | apply IsS89.set_5) | exact HI0.out),zC HB.out (IsS89.ge HI0.out),by repeat (first | (with_reducible first | exact HK.out | apply KeepBut.set_ | apply keep_drewN | apply keep_drew | apply keep_alloc) | exact HK.out)⟩
end Go.Proofs.Ytkjdblbgmomieaa.PSh
end
