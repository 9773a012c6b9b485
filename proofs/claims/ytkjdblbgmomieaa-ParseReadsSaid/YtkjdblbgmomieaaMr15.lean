import Derived.Test.YtkjdblbgmomieaaMr2
import Derived.Test.YtkjdblbgmomieaaMr10
import Derived.Test.YtkjdblbgmomieaaMr9
import Derived.Test.YtkjdblbgmomieaaMr12
import Derived.Test.YtkjdblbgmomieaaMr14
import Derived.Test.YtkjdblbgmomieaaMr3
import Derived.Test.YtkjdblbgmomieaaMr13
import Derived.Test.YtkjdblbgmomieaaMr1
import Derived.Laws.EntriesVeiled
import Derived.Test.YtkjdblbgmomieaaMr11
-- from YtkjdblbgmomieaaPShx22
section
namespace Go.Proofs.Ytkjdblbgmomieaa.PSh
set_option maxHeartbeats 8000000
set_option maxRecDepth 100000
open Go.RowKit Go.Proofs.YtkjdblbgmomieaaW.PrintWords Go.Proofs.YtkjdblbgmomieaaW.PrintLast Go.Proofs.YtkjdblbgmomieaaW.PrintMore Go.Proofs.Ytkjdblbgmomieaa.Zip
attribute [local go_sem] max2_int min2_int max_two min_two max_three min_three max_four min_four   -- for this text's walks alone
set_option linter.unusedVariables false
set_option linter.unusedSimpArgs false
mutual
def r05_Find.l0:Nat→ByteArray→Int→Option (Int × Int)
 | 0,_,_=>none
 | k+1,x0,x4=>if x4≤29 then (r05_Find.l1 k x0 x4 0) else (some (0,0))
def r05_Find.l1:Nat→ByteArray→Int→Int→Option (Int × Int)
 | 0,_,_,_=>none
 | k+1,x0,x4,x5=>if x5≤3 then ((r05_May.f x4 x5).bind fun t342=>(if t342=true then ((r05_Word.f x4 0 0 x5 ([]:List Int) ([]:List Int) (⟨#[]⟩:ByteArray) 0).bind fun t343=>(if t343.toList=x0.toList then (some (x4,x5)) else (r05_Find.l1 k x0 x4 (wrap64 (x5+1))))) else (r05_Find.l1 k x0 x4 (wrap64 (x5+1))))) else (r05_Find.l0 k x0 (wrap64 (x4+1)))
end
def r05_Find.f (k:Nat) (a0:ByteArray):Option (Int × Int):=if a0.toList=([]:List UInt8) then (some (0,0)) else (r05_Find.l0 k a0 1)
theorem r05_Find.calls (k:Nat) (a0:ByteArray) (r1:Int) (r2:Int) (w:World) (h:r05_Find.f k a0=some (r1,r2)):
  Calls Try.prog 102 #[.string a0] w fun e w'=>e=.returned (.tuple #[.int .i64 r1,.int .i64 r2])∧Below w.heap.size w w':=by
 have HB:=aM (Below.refl w.heap.size w)
 have H:(if a0.toList=([]:List UInt8) then (some (0,0)) else (r05_Find.l0 k a0 1))=some (r1,r2):=h
 clear h
 by_cases c2:a0.toList=([]:List UInt8)
 ·rw [if_pos c2] at H
  have c2b0:(a0.toList==([]:List UInt8))=true:=beq_iff_eq.mpr c2
  clear c2
  simp only [Option.some.injEq,Prod.mk.injEq] at H
  obtain ⟨rfl,rfl⟩:=H
  go_enter Try.func102,Try.ntmps102
  go_wp2
  go_ret2
  exact ⟨zF,zB HB.out⟩
 ·rw [if_neg c2] at H
  have c2b0:(a0.toList==([]:List UInt8))=false:=beq_eq_false_iff_ne.mpr c2
  have H':=aM H
  clear H
  go_enter Try.func102,Try.ntmps102
  go_wp2
  go_loopg [4] k (fun kq v4 w'=>∃ (x4_1:Int),v4=.int .i64 x4_1∧Aside0 (r05_Find.l0 kq a0 x4_1=some (r1,r2))∧Aside0 (kq≤k)∧Aside0 (Below w.heap.size w w'))
  case atStart=>exact ⟨(1),(by first | rfl | (simp;done) | (simp [*];done)),H',⟨Nat.le_refl _⟩,⟨zB HB.out⟩⟩
  case round=>
   clear H' c2 c2b0
   obtain ⟨x4_1,rfl,HA,HK1,HB⟩:=hrel
   cases gk with
   | zero=>exact absurd HA.out (by simp [r05_Find.l0])
   | succ k1=>
    have H:=HA.out
    clear HA
    simp only [r05_Find.l0] at H
    by_cases c3:x4_1≤29
    ·rw [if_pos c3] at H
     have c3b0:decide (x4_1≤29)=true:=decide_eq_true c3
     clear c3
     have H':=aM H
     clear H
     go_wp2
     go_loopg [5] k1 (fun kq v5 w'=>∃ (x5_2:Int),v5=.int .i64 x5_2∧Aside0 (r05_Find.l1 kq a0 x4_1 x5_2=some (r1,r2))∧Aside0 (kq≤k1)∧Aside0 (Below w.heap.size w w'))
     case atStart=>exact ⟨(0),(by first | rfl | (simp;done) | (simp [*];done)),H',⟨Nat.le_refl _⟩,⟨zB HB.out⟩⟩
     case round=>
      clear H' c3b0
      obtain ⟨x5_2,rfl,HA,HK2,HB⟩:=hrel
      cases gk with
      | zero=>exact absurd HA.out (by simp [r05_Find.l1])
      | succ k2=>
       have H:=HA.out
       clear HA
       simp only [r05_Find.l1] at H
       by_cases c4:x5_2≤3
       ·rw [if_pos c4] at H
        have c4b0:decide (x5_2≤3)=true:=decide_eq_true c4
        clear c4
        replace H:=Option.bind_eq_some_iff.mp H
        obtain ⟨t342,A50,H⟩:=H
        have A5:=aM A50
        clear A50
        by_cases c6:t342=true
        ·subst c6
         have H1:((r05_Word.f x4_1 0 0 x5_2 ([]:List Int) ([]:List Int) (⟨#[]⟩:ByteArray) 0).bind fun t343=>(if t343.toList=a0.toList then (some (x4_1,x5_2)) else (r05_Find.l1 k2 a0 x4_1 (wrap64 (x5_2+1)))))=some (r1,r2):=by rw [if_pos rfl] at H;exact H
         clear H
         have H:=H1
         clear H1
         replace H:=Option.bind_eq_some_iff.mp H
         obtain ⟨t343,A70,H⟩:=H
         have A7:=aM A70
         clear A70
         by_cases c8:t343.toList=a0.toList
         ·rw [if_pos c8] at H
          have c8b0:(t343.toList==a0.toList)=true:=beq_iff_eq.mpr c8
          clear c8
          simp only [Option.some.injEq,Prod.mk.injEq] at H
          obtain ⟨rfl,rfl⟩:=H
          go_wp2_with (first | ((with_reducible refine gate_callee (f:=50) rfl ?_);refine goesL_ (some 18) rfl rfl Try.func50 (by kernel_rfl) rfl #[.int .i64 x4_1,.int .i64 x5_2] rfl zA ?_;(with_reducible refine (r05_May.calls x4_1 x5_2 true _ A5.out).mono ?_);rintro e w' ⟨rfl,⟨nd,rfl⟩⟩;refine ⟨_,rfl,?_⟩) | (go_at_call 43;(refine (r05_Word.calls x4_1 0 0 x5_2 _ _ ([]:List Int) _ _ ([]:List Int) (⟨#[]⟩:ByteArray) 0 t343 _ ?side1 ?side2 ?side3 ?side4 A7.out).mono ?_);(case side1=>exact Kd.C_nil _ _);(case side2=>exact Nat.le_refl _);(case side3=>exact Kd.C_nil _ _);(case side4=>exact Nat.le_refl _);rintro e w9 ⟨rfl,hb⟩;have n0_:=aM (below_step (zB HB.out) hb);clear HB;have HB:=n0_;clear n0_;(try clear hb);(try clear hb2);(try clear hk);(try clear hi)))
          go_ret2
          exact ⟨zF,zB HB.out⟩
         ·rw [if_neg c8] at H
          have c8b0:(t343.toList==a0.toList)=false:=beq_eq_false_iff_ne.mpr c8
          have H':=aM H
          clear H
          go_wp2_with (first | ((with_reducible refine gate_callee (f:=50) rfl ?_);refine goesL_ (some 18) rfl rfl Try.func50 (by kernel_rfl) rfl #[.int .i64 x4_1,.int .i64 x5_2] rfl zA ?_;(with_reducible refine (r05_May.calls x4_1 x5_2 true _ A5.out).mono ?_);rintro e w' ⟨rfl,⟨nd,rfl⟩⟩;refine ⟨_,rfl,?_⟩) | (go_at_call 43;(refine (r05_Word.calls x4_1 0 0 x5_2 _ _ ([]:List Int) _ _ ([]:List Int) (⟨#[]⟩:ByteArray) 0 t343 _ ?side1 ?side2 ?side3 ?side4 A7.out).mono ?_);(case side1=>exact Kd.C_nil _ _);(case side2=>exact Nat.le_refl _);(case side3=>exact Kd.C_nil _ _);(case side4=>exact Nat.le_refl _);rintro e w10 ⟨rfl,hb⟩;have n0_:=aM (below_step (zB HB.out) hb);clear HB;have HB:=n0_;clear n0_;(try clear hb);(try clear hb2);(try clear hk);(try clear hi)))
          go_roundg k2
          case measure=>have:=HK1.out;have:=HK2.out;omega
          case rel=>exact ⟨(wrap64 (x5_2+1)),(by first | rfl | (simp;done) | (simp [*];done)),H',⟨by have:=HK1.out;have:=HK2.out;omega⟩,⟨zB HB.out⟩⟩
        ·replace c6:=Bool.eq_false_iff.mpr c6
         subst c6
         have H1:(r05_Find.l1 k2 a0 x4_1 (wrap64 (x5_2+1)))=some (r1,r2):=by rw [if_neg (show ¬ (false=true) by decide)] at H;exact H
         clear H
         have H:=H1
         clear H1
         have H':=aM H
         clear H
         go_wp2_with (first | ((with_reducible refine gate_callee (f:=50) rfl ?_);refine goesL_ (some 18) rfl rfl Try.func50 (by kernel_rfl) rfl #[.int .i64 x4_1,.int .i64 x5_2] rfl zA ?_;(with_reducible refine (r05_May.calls x4_1 x5_2 false _ A5.out).mono ?_);rintro e w' ⟨rfl,⟨nd,rfl⟩⟩;refine ⟨_,rfl,?_⟩))
         go_roundg k2
         case measure=>have:=HK1.out;have:=HK2.out;omega
         case rel=>exact ⟨(wrap64 (x5_2+1)),(by first | rfl | (simp;done) | (simp [*];done)),H',⟨by have:=HK1.out;have:=HK2.out;omega⟩,⟨zB HB.out⟩⟩
       ·rw [if_neg c4] at H
        have c4b0:decide (x5_2≤3)=false:=decide_eq_false c4
        clear c4
        have H':=aM H
        clear H
        go_wp2
        go_roundg k2
        case measure=>have:=HK1.out;have:=HK2.out;omega
        case rel=>exact ⟨(wrap64 (x4_1+1)),(by first | rfl | (simp;done) | (simp [*];done)),H',⟨by have:=HK1.out;have:=HK2.out;omega⟩,⟨zB HB.out⟩⟩
    ·rw [if_neg c3] at H
     have c3b0:decide (x4_1≤29)=false:=decide_eq_false c3
     clear c3
     simp only [Option.some.injEq,Prod.mk.injEq] at H
     obtain ⟨rfl,rfl⟩:=H
     go_wp2
     go_ret2
     exact ⟨zF,zB HB.out⟩
def r06_Reader_number.j0:Nat→Int→Int→Bool→List (S101)→Int→Int→Int→Int→Int→Option (Int × Int × Int × Int × Int × Int)
 | 0,_,_,_,_,_,_,_,_,_=>none
 | k+1,x7,x8,x26,x1000,x1001,x1002,x1003,x1004,x1005=>if x26=true then (if 18=0 then (some (x7,wrap64 (x1001+1),x1002,x1003,x1004,x1005)) else ((r06_Reader_fail.f x1000 x1001 x1002 x1003 x1004 x1005 18).bind fun bt352=>(some (0,bt352.1,bt352.2.1,bt352.2.2.1,bt352.2.2.2.1,bt352.2.2.2.2)))) else (if x8=0 then (some (x7,wrap64 (x1001+1),x1002,x1003,x1004,x1005)) else ((r06_Reader_fail.f x1000 x1001 x1002 x1003 x1004 x1005 x8).bind fun bt357=>(some (0,bt357.1,bt357.2.1,bt357.2.2.1,bt357.2.2.2.1,bt357.2.2.2.2))))
def r06_Reader_number.f (k:Nat) (s0_0:List (S101)) (s0_1:Int) (s0_2:Int) (s0_3:Int) (s0_4:Int) (s0_5:Int) (a1:Int) (a2:Int):Option (Int × Int × Int × Int × Int × Int):=(r06_Reader_peek.f s0_0 s0_1 s0_2 s0_3 s0_4 s0_5 0).bind fun bt344=>((r01_Parse.f k bt344.1).bind fun bt350=>(if bt350.2=0 then (if bt350.1<a1 then (r06_Reader_number.j0 k bt350.1 bt350.2 true s0_0 bt344.2.1 bt344.2.2.1 bt344.2.2.2.1 bt344.2.2.2.2.1 bt344.2.2.2.2.2) else (r06_Reader_number.j0 k bt350.1 bt350.2 (decide (bt350.1>a2)) s0_0 bt344.2.1 bt344.2.2.1 bt344.2.2.2.1 bt344.2.2.2.2.1 bt344.2.2.2.2.2)) else (r06_Reader_number.j0 k bt350.1 bt350.2 false s0_0 bt344.2.1 bt344.2.2.1 bt344.2.2.2.1 bt344.2.2.2.2.1 bt344.2.2.2.2.2)))
theorem r06_Reader_number.calls (k:Nat) (g:Nat) (s0_0:List (S101)) (s0_1:Int) (s0_2:Int) (s0_3:Int) (s0_4:Int) (s0_5:Int) (a1:Int) (a2:Int) (r1:Int) (r2:Int) (r3:Int) (r4:Int) (r5:Int) (r6:Int) (w0 w:World) (hI:IsS89 w0 w g s0_0 s0_1 s0_2 s0_3 s0_4 s0_5) (hB:Below w0.heap.size w0 w) (h:r06_Reader_number.f k s0_0 s0_1 s0_2 s0_3 s0_4 s0_5 a1 a2=some (r1,r2,r3,r4,r5,r6)):
  Calls Try.prog 110 #[.pointer (some ⟨g,0,none⟩),.int .i64 a1,.int .i64 a2] w fun e w'=>e=.returned (.int .i64 r1)∧IsS89 w0 w' g s0_0 r2 r3 r4 r5 r6∧Below w0.heap.size w0 w'∧KeepBut w w' g none:=by
 have HI0:=aM hI
 have HK:=aM (KeepBut.refl w g none)
 clear hI
 have HB:=aM hB
 clear hB
 have H:((r06_Reader_peek.f s0_0 s0_1 s0_2 s0_3 s0_4 s0_5 0).bind fun bt344=>((r01_Parse.f k bt344.1).bind fun bt350=>(if bt350.2=0 then (if bt350.1<a1 then (r06_Reader_number.j0 k bt350.1 bt350.2 true s0_0 bt344.2.1 bt344.2.2.1 bt344.2.2.2.1 bt344.2.2.2.2.1 bt344.2.2.2.2.2) else (r06_Reader_number.j0 k bt350.1 bt350.2 (decide (bt350.1>a2)) s0_0 bt344.2.1 bt344.2.2.1 bt344.2.2.2.1 bt344.2.2.2.2.1 bt344.2.2.2.2.2)) else (r06_Reader_number.j0 k bt350.1 bt350.2 false s0_0 bt344.2.1 bt344.2.2.1 bt344.2.2.2.1 bt344.2.2.2.2.1 bt344.2.2.2.2.2))))=some (r1,r2,r3,r4,r5,r6):=h
 clear h
 replace H:=Option.bind_eq_some_iff.mp H
 obtain ⟨⟨t344,t345,t346,t347,t348,t349⟩,A40,H⟩:=H
 have A4:=aM A40
 clear A40
 replace H:=Option.bind_eq_some_iff.mp H
 obtain ⟨⟨t350,t351⟩,A50,H⟩:=H
 have A5:=aM A50
 clear A50
 have HC6:=aM H
 clear H
 go_enter Try.func110,Try.ntmps110
 go_upto_region 2 with (first | ((with_reducible refine gate_callee (f:=86) rfl ?_);refine goesL_ (some 11) rfl rfl Try.func86 (by kernel_rfl) rfl #[.pointer (some ⟨g,0,none⟩),.int .i64 0] rfl zA ?_;(with_reducible refine (r06_Reader_peek.calls g s0_0 s0_1 s0_2 s0_3 s0_4 s0_5 0 t344 t345 t346 t347 t348 t349 w0 _ ?side1 ?side2 A4.out).mono ?_);(case side1=>repeat (first | (with_reducible first | exact HI0.out | apply IsS89.alloc | apply IsS89.drewN | apply IsS89.drew | apply IsS89.set_1 | apply IsS89.set_2 | apply IsS89.set_3 | apply IsS89.set_4 | apply IsS89.set_5) | exact HI0.out));(case side2=>repeat (first | (with_reducible first | exact HB.out | apply below_alloc | apply pw_below_drewN | apply below_drew1 | refine below_set ?_ (IsS89.ge HI0.out)) | exact HB.out));rintro e w7 ⟨rfl,hi,hb,hk⟩;refine ⟨_,rfl,?_⟩;have n0_:=aM (KeepBut.trans (by repeat (first | (with_reducible first | exact HK.out | apply KeepBut.set_ | apply keep_drewN | apply keep_drew | apply keep_alloc) | exact HK.out)) hk (.inl rfl));have n1_:=aM (hb);have n2_:=aM (hi);clear HK;clear HB;clear HI0;have HK:=n0_;have HB:=n1_;have HI0:=n2_;clear n0_ n1_ n2_;(try clear hb);(try clear hb2);(try clear hk);(try clear hi)) | ((with_reducible refine gate_callee (f:=119) rfl ?_);refine goesL_ (some 12) rfl rfl Try.func119 (by kernel_rfl) rfl #[.string t344] rfl zA ?_;(with_reducible refine (r01_Parse.calls k t344 t350 t351 _ A5.out).mono ?_);rintro e w' ⟨rfl,⟨nd,rfl⟩⟩;refine ⟨_,rfl,?_⟩))
 (try simp only [Act.put,qA,qB,qC])
 go_cut [26] (fun v26 wc=>∃ (kq:Nat) (x26_5:Bool),v26=.bool x26_5∧Aside0 (r06_Reader_number.j0 kq t350 t351 x26_5 s0_0 t345 t346 t347 t348 t349=some (r1,r2,r3,r4,r5,r6))∧Aside0 (kq≤k)∧Aside0 (IsS89 w0 wc g s0_0 t345 t346 t347 t348 t349)∧Aside0 (KeepBut w wc g none)∧Aside0 (Below w0.heap.size w0 wc))
 case first=>
  have H:=HC6.out
  clear HC6
  by_cases c8:t351=0
  ·rw [if_pos c8] at H
   have c8b0:(t351==0)=true:=beq_iff_eq.mpr c8
   clear c8
   (first | rw [c8b0] | (simp only [i64_w,i32_w];rw [c8b0]) | skip)
   by_cases c9:t350<a1
   ·rw [if_pos c9] at H
    have c9b0:decide (t350<a1)=true:=decide_eq_true c9
    clear c9
    have H':=aM H
    clear H
    go_wp2
    go_meet
    case rel=>exact ⟨_,(true),(by first | rfl | (simp;done) | (simp [*];done)),H',⟨by first | omega | exact Nat.le_refl _⟩,⟨by repeat (first | (with_reducible first | exact HI0.out | apply IsS89.alloc | apply IsS89.drewN | apply IsS89.drew | apply IsS89.set_1 | apply IsS89.set_2 | apply IsS89.set_3 | apply IsS89.set_4 | apply IsS89.set_5) | exact HI0.out)⟩,⟨by repeat (first | (with_reducible first | exact HK.out | apply KeepBut.set_ | apply keep_drewN | apply keep_drew | apply keep_alloc) | exact HK.out)⟩,⟨zC HB.out (IsS89.ge HI0.out)⟩⟩
   ·rw [if_neg c9] at H
    have c9b0:decide (t350<a1)=false:=decide_eq_false c9
    clear c9
    have H':=aM H
    clear H
    go_wp2
    go_meet
    case rel=>exact ⟨_,(decide (t350>a2)),(by first | rfl | (simp;done) | (simp [*];done)),H',⟨by first | omega | exact Nat.le_refl _⟩,⟨by repeat (first | (with_reducible first | exact HI0.out | apply IsS89.alloc | apply IsS89.drewN | apply IsS89.drew | apply IsS89.set_1 | apply IsS89.set_2 | apply IsS89.set_3 | apply IsS89.set_4 | apply IsS89.set_5) | exact HI0.out)⟩,⟨by repeat (first | (with_reducible first | exact HK.out | apply KeepBut.set_ | apply keep_drewN | apply keep_drew | apply keep_alloc) | exact HK.out)⟩,⟨zC HB.out (IsS89.ge HI0.out)⟩⟩
  ·rw [if_neg c8] at H
   have c8b0:(t351==0)=false:=beq_eq_false_iff_ne.mpr c8
   (first | rw [c8b0] | (simp only [i64_w,i32_w];rw [c8b0]) | skip)
   have H':=aM H
   clear H
   go_wp2
   go_meet
   case rel=>exact ⟨_,(false),(by first | rfl | (simp;done) | (simp [*];done)),H',⟨by first | omega | exact Nat.le_refl _⟩,⟨by repeat (first | (with_reducible first | exact HI0.out | apply IsS89.alloc | apply IsS89.drewN | apply IsS89.drew | apply IsS89.set_1 | apply IsS89.set_2 | apply IsS89.set_3 | apply IsS89.set_4 | apply IsS89.set_5) | exact HI0.out)⟩,⟨by repeat (first | (with_reducible first | exact HK.out | apply KeepBut.set_ | apply keep_drewN | apply keep_drew | apply keep_alloc) | exact HK.out)⟩,⟨zC HB.out (IsS89.ge HI0.out)⟩⟩
 case rest=>
  clear HC6
  obtain ⟨kq,x26_5,rfl,HA,HJ5,HI0,HK,HB⟩:=hcut
  cases kq with
  | zero=>exact absurd HA.out (by simp [r06_Reader_number.j0])
  | succ kj5=>
   have H:=HA.out
   clear HA
   simp only [r06_Reader_number.j0] at H
   by_cases c10:x26_5=true
   ·subst c10
    have H1:(if 18=0 then (some (t350,wrap64 (t345+1),t346,t347,t348,t349)) else ((r06_Reader_fail.f s0_0 t345 t346 t347 t348 t349 18).bind fun bt352=>(some (0,bt352.1,bt352.2.1,bt352.2.2.1,bt352.2.2.2.1,bt352.2.2.2.2))))=some (r1,r2,r3,r4,r5,r6):=by rw [if_pos rfl] at H;exact H
    clear H
    have H:=H1
    clear H1
    by_cases c11:18=0
    ·exact absurd c11 (by decide)
    ·rw [if_neg c11] at H
     replace H:=Option.bind_eq_some_iff.mp H
     obtain ⟨⟨t352,t353,t354,t355,t356⟩,A130,H⟩:=H
     have A13:=aM A130
     clear A130
     simp only [Option.some.injEq,Prod.mk.injEq] at H
     obtain ⟨rfl,rfl,rfl,rfl,rfl,rfl⟩:=H
     go_wp2_with (first | ((with_reducible refine gate_callee (f:=61) rfl ?_);refine goesL_ (some 31) rfl rfl Try.func61 (by kernel_rfl) rfl #[.pointer (some ⟨g,0,none⟩),.int .i64 18] rfl zA ?_;(with_reducible refine (r06_Reader_fail.calls g s0_0 t345 t346 t347 t348 t349 18 t352 t353 t354 t355 t356 w0 _ ?side1 ?side2 A13.out).mono ?_);(case side1=>repeat (first | (with_reducible first | exact HI0.out | apply IsS89.alloc | apply IsS89.drewN | apply IsS89.drew | apply IsS89.set_1 | apply IsS89.set_2 | apply IsS89.set_3 | apply IsS89.set_4 | apply IsS89.set_5) | exact HI0.out));(case side2=>repeat (first | (with_reducible first | exact HB.out | apply below_alloc | apply pw_below_drewN | apply below_drew1 | refine below_set ?_ (IsS89.ge HI0.out)) | exact HB.out));rintro e w14 ⟨rfl,hi,hb,hk⟩;refine ⟨_,rfl,?_⟩;have n0_:=aM (KeepBut.trans (by repeat (first | (with_reducible first | exact HK.out | apply KeepBut.set_ | apply keep_drewN | apply keep_drew | apply keep_alloc) | exact HK.out)) hk (.inl rfl));have n1_:=aM (hb);have n2_:=aM (hi);clear HK;clear HB;clear HI0;have HK:=n0_;have HB:=n1_;have HI0:=n2_;clear n0_ n1_ n2_;(try clear hb);(try clear hb2);(try clear hk);(try clear hi)))
     go_ret
     exact ⟨zF,by repeat (first | (with_reducible first | exact HI0.out | apply IsS89.alloc | apply IsS89.drewN | apply IsS89.drew | apply IsS89.set_1 | apply IsS89.set_2 | apply IsS89.set_3 | apply IsS89.set_4 | apply IsS89.set_5) | exact HI0.out),zC HB.out (IsS89.ge HI0.out),by repeat (first | (with_reducible first | exact HK.out | apply KeepBut.set_ | apply keep_drewN | apply keep_drew | apply keep_alloc) | exact HK.out)⟩
   ·replace c10:=Bool.eq_false_iff.mpr c10
    subst c10
    have H1:(if t351=0 then (some (t350,wrap64 (t345+1),t346,t347,t348,t349)) else ((r06_Reader_fail.f s0_0 t345 t346 t347 t348 t349 t351).bind fun bt357=>(some (0,bt357.1,bt357.2.1,bt357.2.2.1,bt357.2.2.2.1,bt357.2.2.2.2))))=some (r1,r2,r3,r4,r5,r6):=by rw [if_neg (show ¬ (false=true) by decide)] at H;exact H
    clear H
    have H:=H1
    clear H1
    by_cases c15:t351=0
    ·rw [if_pos c15] at H
     have c15b1:(t351 !=0)=false:=bne_eq_false_iff_eq.mpr c15
     clear c15
     simp only [Option.some.injEq,Prod.mk.injEq] at H
     obtain ⟨rfl,rfl,rfl,rfl,rfl,rfl⟩:=H
     obtain ⟨ASz16_0,cSz16_0,HGz16,hgz16,HSz16_0⟩:=HI0.out
     have hcz16_1:=cellS89_1 HGz16
     have hfz16_1:=blk_frozen HGz16 1
     clear HGz16 hgz16
     go_wp2
     go_ret
     exact ⟨zF,by repeat (first | (with_reducible first | exact HI0.out | apply IsS89.alloc | apply IsS89.drewN | apply IsS89.drew | apply IsS89.set_1 | apply IsS89.set_2 | apply IsS89.set_3 | apply IsS89.set_4 | apply IsS89.set_5) | exact HI0.out),zC HB.out (IsS89.ge HI0.out),by repeat (first | (with_reducible first | exact HK.out | apply KeepBut.set_ | apply keep_drewN | apply keep_drew | apply keep_alloc) | exact HK.out)⟩
    ·rw [if_neg c15] at H
     have c15b1:(t351 !=0)=true:=bne_iff_ne.mpr c15
     replace H:=Option.bind_eq_some_iff.mp H
     obtain ⟨⟨t357,t358,t359,t360,t361⟩,A170,H⟩:=H
     have A17:=aM A170
     clear A170
     simp only [Option.some.injEq,Prod.mk.injEq] at H
     obtain ⟨rfl,rfl,rfl,rfl,rfl,rfl⟩:=H
     go_wp2_with (first | ((with_reducible refine gate_callee (f:=61) rfl ?_);refine goesL_ (some 31) rfl rfl Try.func61 (by kernel_rfl) rfl #[.pointer (some ⟨g,0,none⟩),.int .i64 t351] rfl zA ?_;(with_reducible refine (r06_Reader_fail.calls g s0_0 t345 t346 t347 t348 t349 t351 t357 t358 t359 t360 t361 w0 _ ?side1 ?side2 A17.out).mono ?_);(case side1=>repeat (first | (with_reducible first | exact HI0.out | apply IsS89.alloc | apply IsS89.drewN | apply IsS89.drew | apply IsS89.set_1 | apply IsS89.set_2 | apply IsS89.set_3 | apply IsS89.set_4 | apply IsS89.set_5) | exact HI0.out));(case side2=>repeat (first | (with_reducible first | exact HB.out | apply below_alloc | apply pw_below_drewN | apply below_drew1 | refine below_set ?_ (IsS89.ge HI0.out)) | exact HB.out));rintro e w18 ⟨rfl,hi,hb,hk⟩;refine ⟨_,rfl,?_⟩;have n0_:=aM (KeepBut.trans (by repeat (first | (with_reducible first | exact HK.out | apply KeepBut.set_ | apply keep_drewN | apply keep_drew | apply keep_alloc) | exact HK.out)) hk (.inl rfl));have n1_:=aM (hb);have n2_:=aM (hi);clear HK;clear HB;clear HI0;have HK:=n0_;have HB:=n1_;have HI0:=n2_;clear n0_ n1_ n2_;(try clear hb);(try clear hb2);(try clear hk);(try clear hi)))
     go_ret
     exact ⟨zF,by repeat (first | (with_reducible first | exact HI0.out | apply IsS89.alloc | apply IsS89.drewN | apply IsS89.drew | apply IsS89.set_1 | apply IsS89.set_2 | apply IsS89.set_3 | apply IsS89.set_4 | apply IsS89.set_5) | exact HI0.out),zC HB.out (IsS89.ge HI0.out),by repeat (first | (with_reducible first | exact HK.out | apply KeepBut.set_ | apply keep_drewN | apply keep_drew | apply keep_alloc) | exact HK.out)⟩
def r06_Reader_pair.f (s0_0:List (S101)) (s0_1:Int) (s0_2:Int) (s0_3:Int) (s0_4:Int) (s0_5:Int):Option (Bool × Int × Int × Int × Int × Int):=(r06_Reader_peek.f s0_0 s0_1 s0_2 s0_3 s0_4 s0_5 0).bind fun bt362=>(if bt362.1.toList=([]:List UInt8) then (some (false,bt362.2.1,bt362.2.2.1,bt362.2.2.2.1,bt362.2.2.2.2.1,bt362.2.2.2.2.2)) else (if 0<(bt362.1.size:Int) then (if (bt bt362.1 0)=98 then (if bt362.1.toList=([98,114]:List UInt8) then (some (false,bt362.2.1,bt362.2.2.1,bt362.2.2.2.1,bt362.2.2.2.2.1,bt362.2.2.2.2.2)) else ((r06_Reader_peek.f s0_0 bt362.2.1 bt362.2.2.1 bt362.2.2.2.1 bt362.2.2.2.2.1 bt362.2.2.2.2.2 1).bind fun bt368=>(some ((bt368.1.toList !=([58]:List UInt8)),bt368.2.1,bt368.2.2.1,bt368.2.2.2.1,bt368.2.2.2.2.1,bt368.2.2.2.2.2)))) else (some (false,bt362.2.1,bt362.2.2.1,bt362.2.2.2.1,bt362.2.2.2.2.1,bt362.2.2.2.2.2))) else (none)))
theorem r06_Reader_pair.calls (g:Nat) (s0_0:List (S101)) (s0_1:Int) (s0_2:Int) (s0_3:Int) (s0_4:Int) (s0_5:Int) (r1:Bool) (r2:Int) (r3:Int) (r4:Int) (r5:Int) (r6:Int) (w0 w:World) (hI:IsS89 w0 w g s0_0 s0_1 s0_2 s0_3 s0_4 s0_5) (hB:Below w0.heap.size w0 w) (h:r06_Reader_pair.f s0_0 s0_1 s0_2 s0_3 s0_4 s0_5=some (r1,r2,r3,r4,r5,r6)):
  Calls Try.prog 120 #[.pointer (some ⟨g,0,none⟩)] w fun e w'=>e=.returned (.bool r1)∧IsS89 w0 w' g s0_0 r2 r3 r4 r5 r6∧Below w0.heap.size w0 w'∧KeepBut w w' g none:=by
 have HI0:=aM hI
 have HK:=aM (KeepBut.refl w g none)
 clear hI
 have HB:=aM hB
 clear hB
 have H:((r06_Reader_peek.f s0_0 s0_1 s0_2 s0_3 s0_4 s0_5 0).bind fun bt362=>(if bt362.1.toList=([]:List UInt8) then (some (false,bt362.2.1,bt362.2.2.1,bt362.2.2.2.1,bt362.2.2.2.2.1,bt362.2.2.2.2.2)) else (if 0<(bt362.1.size:Int) then (if (bt bt362.1 0)=98 then (if bt362.1.toList=([98,114]:List UInt8) then (some (false,bt362.2.1,bt362.2.2.1,bt362.2.2.2.1,bt362.2.2.2.2.1,bt362.2.2.2.2.2)) else ((r06_Reader_peek.f s0_0 bt362.2.1 bt362.2.2.1 bt362.2.2.2.1 bt362.2.2.2.2.1 bt362.2.2.2.2.2 1).bind fun bt368=>(some ((bt368.1.toList !=([58]:List UInt8)),bt368.2.1,bt368.2.2.1,bt368.2.2.2.1,bt368.2.2.2.2.1,bt368.2.2.2.2.2)))) else (some (false,bt362.2.1,bt362.2.2.1,bt362.2.2.2.1,bt362.2.2.2.2.1,bt362.2.2.2.2.2))) else (none))))=some (r1,r2,r3,r4,r5,r6):=h
 clear h
 replace H:=Option.bind_eq_some_iff.mp H
 obtain ⟨⟨t362,t363,t364,t365,t366,t367⟩,A20,H⟩:=H
 have A2:=aM A20
 clear A20
 by_cases c3:t362.toList=([]:List UInt8)
 ·rw [if_pos c3] at H
  have c3b0:(t362.toList==([]:List UInt8))=true:=beq_iff_eq.mpr c3
  clear c3
  simp only [Option.some.injEq,Prod.mk.injEq] at H
  obtain ⟨rfl,rfl,rfl,rfl,rfl,rfl⟩:=H
  go_enter Try.func120,Try.ntmps120
  go_wp2_with (first | ((with_reducible refine gate_callee (f:=86) rfl ?_);refine goesL_ (some 5) rfl rfl Try.func86 (by kernel_rfl) rfl #[.pointer (some ⟨g,0,none⟩),.int .i64 0] rfl zA ?_;(with_reducible refine (r06_Reader_peek.calls g s0_0 s0_1 s0_2 s0_3 s0_4 s0_5 0 t362 t363 t364 t365 t366 t367 w0 _ ?side1 ?side2 A2.out).mono ?_);(case side1=>repeat (first | (with_reducible first | exact HI0.out | apply IsS89.alloc | apply IsS89.drewN | apply IsS89.drew | apply IsS89.set_1 | apply IsS89.set_2 | apply IsS89.set_3 | apply IsS89.set_4 | apply IsS89.set_5) | exact HI0.out));(case side2=>repeat (first | (with_reducible first | exact HB.out | apply below_alloc | apply pw_below_drewN | apply below_drew1 | refine below_set ?_ (IsS89.ge HI0.out)) | exact HB.out));rintro e w4 ⟨rfl,hi,hb,hk⟩;refine ⟨_,rfl,?_⟩;have n0_:=aM (KeepBut.trans (by repeat (first | (with_reducible first | exact HK.out | apply KeepBut.set_ | apply keep_drewN | apply keep_drew | apply keep_alloc) | exact HK.out)) hk (.inl rfl));have n1_:=aM (hb);have n2_:=aM (hi);clear HK;clear HB;clear HI0;have HK:=n0_;have HB:=n1_;have HI0:=n2_;clear n0_ n1_ n2_;(try clear hb);(try clear hb2);(try clear hk);(try clear hi)))
  go_ret
  exact ⟨zF,by repeat (first | (with_reducible first | exact HI0.out | apply IsS89.alloc | apply IsS89.drewN | apply IsS89.drew | apply IsS89.set_1 | apply IsS89.set_2 | apply IsS89.set_3 | apply IsS89.set_4 | apply IsS89.set_5) | exact HI0.out),zC HB.out (IsS89.ge HI0.out),by repeat (first | (with_reducible first | exact HK.out | apply KeepBut.set_ | apply keep_drewN | apply keep_drew | apply keep_alloc) | exact HK.out)⟩
 ·rw [if_neg c3] at H
  have c3b0:(t362.toList==([]:List UInt8))=false:=beq_eq_false_iff_ne.mpr c3
  by_cases c5:0<(t362.size:Int)
  ·rw [if_pos c5] at H
   have c5b0:decide (0<(t362.size:Int))=true:=decide_eq_true c5
   clear c5
   by_cases c7:(bt t362 0)=98
   ·rw [if_pos c7] at H
    have c7b0:((bt t362 0)==98)=true:=beq_iff_eq.mpr c7
    clear c7
    by_cases c8:t362.toList=([98,114]:List UInt8)
    ·rw [if_pos c8] at H
     have c8b0:(t362.toList==([98,114]:List UInt8))=true:=beq_iff_eq.mpr c8
     clear c8
     simp only [Option.some.injEq,Prod.mk.injEq] at H
     obtain ⟨rfl,rfl,rfl,rfl,rfl,rfl⟩:=H
     go_enter Try.func120,Try.ntmps120
     go_wp2_with (first | ((with_reducible refine gate_callee (f:=86) rfl ?_);refine goesL_ (some 5) rfl rfl Try.func86 (by kernel_rfl) rfl #[.pointer (some ⟨g,0,none⟩),.int .i64 0] rfl zA ?_;(with_reducible refine (r06_Reader_peek.calls g s0_0 s0_1 s0_2 s0_3 s0_4 s0_5 0 t362 t363 t364 t365 t366 t367 w0 _ ?side1 ?side2 A2.out).mono ?_);(case side1=>repeat (first | (with_reducible first | exact HI0.out | apply IsS89.alloc | apply IsS89.drewN | apply IsS89.drew | apply IsS89.set_1 | apply IsS89.set_2 | apply IsS89.set_3 | apply IsS89.set_4 | apply IsS89.set_5) | exact HI0.out));(case side2=>repeat (first | (with_reducible first | exact HB.out | apply below_alloc | apply pw_below_drewN | apply below_drew1 | refine below_set ?_ (IsS89.ge HI0.out)) | exact HB.out));rintro e w9 ⟨rfl,hi,hb,hk⟩;refine ⟨_,rfl,?_⟩;have n0_:=aM (KeepBut.trans (by repeat (first | (with_reducible first | exact HK.out | apply KeepBut.set_ | apply keep_drewN | apply keep_drew | apply keep_alloc) | exact HK.out)) hk (.inl rfl));have n1_:=aM (hb);have n2_:=aM (hi);clear HK;clear HB;clear HI0;have HK:=n0_;have HB:=n1_;have HI0:=n2_;clear n0_ n1_ n2_;(try clear hb);(try clear hb2);(try clear hk);(try clear hi);have q6:0<t362.size:=(by have:(0:Int)<(t362.size:Int):=of_decide_eq_true zS;omega);have hx6:∀ h:0<t362.size,((t362[0]'h).toNat:Int)=bt t362 0:=bt_at t362 0;replace q6:=eq_true q6))
     go_ret
     exact ⟨zF,by repeat (first | (with_reducible first | exact HI0.out | apply IsS89.alloc | apply IsS89.drewN | apply IsS89.drew | apply IsS89.set_1 | apply IsS89.set_2 | apply IsS89.set_3 | apply IsS89.set_4 | apply IsS89.set_5) | exact HI0.out),zC HB.out (IsS89.ge HI0.out),by repeat (first | (with_reducible first | exact HK.out | apply KeepBut.set_ | apply keep_drewN | apply keep_drew | apply keep_alloc) | exact HK.out)⟩
    ·rw [if_neg c8] at H
     have c8b0:(t362.toList==([98,114]:List UInt8))=false:=beq_eq_false_iff_ne.mpr c8
     replace H:=Option.bind_eq_some_iff.mp H
     obtain ⟨⟨t368,t369,t370,t371,t372,t373⟩,A100,H⟩:=H
     have A10:=aM A100
     clear A100
     simp only [Option.some.injEq,Prod.mk.injEq] at H
     obtain ⟨rfl,rfl,rfl,rfl,rfl,rfl⟩:=H
     go_enter Try.func120,Try.ntmps120
     go_wp2_with (first | ((with_reducible refine gate_callee (f:=86) rfl ?_);refine goesL_ (some 5) rfl rfl Try.func86 (by kernel_rfl) rfl #[.pointer (some ⟨g,0,none⟩),.int .i64 0] rfl zA ?_;(with_reducible refine (r06_Reader_peek.calls g s0_0 s0_1 s0_2 s0_3 s0_4 s0_5 0 t362 t363 t364 t365 t366 t367 w0 _ ?side1 ?side2 A2.out).mono ?_);(case side1=>repeat (first | (with_reducible first | exact HI0.out | apply IsS89.alloc | apply IsS89.drewN | apply IsS89.drew | apply IsS89.set_1 | apply IsS89.set_2 | apply IsS89.set_3 | apply IsS89.set_4 | apply IsS89.set_5) | exact HI0.out));(case side2=>repeat (first | (with_reducible first | exact HB.out | apply below_alloc | apply pw_below_drewN | apply below_drew1 | refine below_set ?_ (IsS89.ge HI0.out)) | exact HB.out));rintro e w11 ⟨rfl,hi,hb,hk⟩;refine ⟨_,rfl,?_⟩;have n0_:=aM (KeepBut.trans (by repeat (first | (with_reducible first | exact HK.out | apply KeepBut.set_ | apply keep_drewN | apply keep_drew | apply keep_alloc) | exact HK.out)) hk (.inl rfl));have n1_:=aM (hb);have n2_:=aM (hi);clear HK;clear HB;clear HI0;have HK:=n0_;have HB:=n1_;have HI0:=n2_;clear n0_ n1_ n2_;(try clear hb);(try clear hb2);(try clear hk);(try clear hi);have q6:0<t362.size:=(by have:(0:Int)<(t362.size:Int):=of_decide_eq_true zS;omega);have hx6:∀ h:0<t362.size,((t362[0]'h).toNat:Int)=bt t362 0:=bt_at t362 0;replace q6:=eq_true q6) | (go_at_call 86;(with_reducible refine (r06_Reader_peek.calls g s0_0 t363 t364 t365 t366 t367 1 t368 t369 t370 t371 t372 t373 w0 _ ?side1 ?side2 A10.out).mono ?_);(case side1=>repeat (first | (with_reducible first | exact HI0.out | apply IsS89.alloc | apply IsS89.drewN | apply IsS89.drew | apply IsS89.set_1 | apply IsS89.set_2 | apply IsS89.set_3 | apply IsS89.set_4 | apply IsS89.set_5) | exact HI0.out));(case side2=>repeat (first | (with_reducible first | exact HB.out | apply below_alloc | apply pw_below_drewN | apply below_drew1 | refine below_set ?_ (IsS89.ge HI0.out)) | exact HB.out));rintro e w12 ⟨rfl,hi,hb,hk⟩;have n0_:=aM (KeepBut.trans (by repeat (first | (with_reducible first | exact HK.out | apply KeepBut.set_ | apply keep_drewN | apply keep_drew | apply keep_alloc) | exact HK.out)) hk (.inl rfl));have n1_:=aM (hb);have n2_:=aM (hi);clear HK;clear HB;clear HI0;have HK:=n0_;have HB:=n1_;have HI0:=n2_;clear n0_ n1_ n2_;(try clear hb);(try clear hb2);(try clear hk);(try clear hi)))
     go_ret
     exact ⟨zF,by repeat (first | (with_reducible first | exact HI0.out | apply IsS89.alloc | apply IsS89.drewN | apply IsS89.drew | apply IsS89.set_1 | apply IsS89.set_2 | apply IsS89.set_3 | apply IsS89.set_4 | apply IsS89.set_5) | exact HI0.out),zC HB.out (IsS89.ge HI0.out),by repeat (first | (with_reducible first | exact HK.out | apply KeepBut.set_ | apply keep_drewN | apply keep_drew | apply keep_alloc) | exact HK.out)⟩
   ·rw [if_neg c7] at H
    have c7b0:((bt t362 0)==98)=false:=beq_eq_false_iff_ne.mpr c7
    simp only [Option.some.injEq,Prod.mk.injEq] at H
    obtain ⟨rfl,rfl,rfl,rfl,rfl,rfl⟩:=H
    go_enter Try.func120,Try.ntmps120
    go_wp2_with (first | ((with_reducible refine gate_callee (f:=86) rfl ?_);refine goesL_ (some 5) rfl rfl Try.func86 (by kernel_rfl) rfl #[.pointer (some ⟨g,0,none⟩),.int .i64 0] rfl zA ?_;(with_reducible refine (r06_Reader_peek.calls g s0_0 s0_1 s0_2 s0_3 s0_4 s0_5 0 t362 t363 t364 t365 t366 t367 w0 _ ?side1 ?side2 A2.out).mono ?_);(case side1=>repeat (first | (with_reducible first | exact HI0.out | apply IsS89.alloc | apply IsS89.drewN | apply IsS89.drew | apply IsS89.set_1 | apply IsS89.set_2 | apply IsS89.set_3 | apply IsS89.set_4 | apply IsS89.set_5) | exact HI0.out));(case side2=>repeat (first | (with_reducible first | exact HB.out | apply below_alloc | apply pw_below_drewN | apply below_drew1 | refine below_set ?_ (IsS89.ge HI0.out)) | exact HB.out));rintro e w13 ⟨rfl,hi,hb,hk⟩;refine ⟨_,rfl,?_⟩;have n0_:=aM (KeepBut.trans (by repeat (first | (with_reducible first | exact HK.out | apply KeepBut.set_ | apply keep_drewN | apply keep_drew | apply keep_alloc) | exact HK.out)) hk (.inl rfl));have n1_:=aM (hb);have n2_:=aM (hi);clear HK;clear HB;clear HI0;have HK:=n0_;have HB:=n1_;have HI0:=n2_;clear n0_ n1_ n2_;(try clear hb);(try clear hb2);(try clear hk);(try clear hi);have q6:0<t362.size:=(by have:(0:Int)<(t362.size:Int):=of_decide_eq_true zS;omega);have hx6:∀ h:0<t362.size,((t362[0]'h).toNat:Int)=bt t362 0:=bt_at t362 0;replace q6:=eq_true q6))
    go_ret
    exact ⟨zF,by repeat (first | (with_reducible first | exact HI0.out | apply IsS89.alloc | apply IsS89.drewN | apply IsS89.drew | apply IsS89.set_1 | apply IsS89.set_2 | apply IsS89.set_3 | apply IsS89.set_4 | apply IsS89.set_5) | exact HI0.out),zC HB.out (IsS89.ge HI0.out),by repeat (first | (with_reducible first | exact HK.out | apply KeepBut.set_ | apply keep_drewN | apply keep_drew | apply keep_alloc) | exact HK.out)⟩
  ·rw [if_neg c5] at H
   exact absurd H (by simp)
def r06_Reader_label.f (k:Nat) (s0_0:List (S101)) (s0_1:Int) (s0_2:Int) (s0_3:Int) (s0_4:Int) (s0_5:Int):Option (Int × Int × Int × Int × Int × Int):=(r06_Reader_index.f k s0_0 s0_1 s0_2 s0_3 s0_4 s0_5 98 255 7).bind fun bt374=>(some (bt374.1,bt374.2.1,bt374.2.2.1,bt374.2.2.2.1,bt374.2.2.2.2.1,bt374.2.2.2.2.2))
theorem r06_Reader_label.calls (k:Nat) (g:Nat) (s0_0:List (S101)) (s0_1:Int) (s0_2:Int) (s0_3:Int) (s0_4:Int) (s0_5:Int) (r1:Int) (r2:Int) (r3:Int) (r4:Int) (r5:Int) (r6:Int) (w0 w:World) (hI:IsS89 w0 w g s0_0 s0_1 s0_2 s0_3 s0_4 s0_5) (hB:Below w0.heap.size w0 w) (h:r06_Reader_label.f k s0_0 s0_1 s0_2 s0_3 s0_4 s0_5=some (r1,r2,r3,r4,r5,r6)):
  Calls Try.prog 121 #[.pointer (some ⟨g,0,none⟩)] w fun e w'=>e=.returned (.int .i64 r1)∧IsS89 w0 w' g s0_0 r2 r3 r4 r5 r6∧Below w0.heap.size w0 w'∧KeepBut w w' g none:=by
 have HI0:=aM hI
 have HK:=aM (KeepBut.refl w g none)
 clear hI
 have HB:=aM hB
 clear hB
 have H:((r06_Reader_index.f k s0_0 s0_1 s0_2 s0_3 s0_4 s0_5 98 255 7).bind fun bt374=>(some (bt374.1,bt374.2.1,bt374.2.2.1,bt374.2.2.2.1,bt374.2.2.2.2.1,bt374.2.2.2.2.2)))=some (r1,r2,r3,r4,r5,r6):=h
 clear h
 replace H:=Option.bind_eq_some_iff.mp H
 obtain ⟨⟨t374,t375,t376,t377,t378,t379⟩,A20,H⟩:=H
 have A2:=aM A20
 clear A20
 simp only [Option.some.injEq,Prod.mk.injEq] at H
 obtain ⟨rfl,rfl,rfl,rfl,rfl,rfl⟩:=H
 go_enter Try.func121,Try.ntmps121
 go_wp2_with (first | ((with_reducible refine gate_callee (f:=109) rfl ?_);refine goesL_ (some 4) rfl rfl Try.func109 (by kernel_rfl) rfl #[.pointer (some ⟨g,0,none⟩),.int .u8 98,.int .i64 255,.int .i64 7] rfl zA ?_;(with_reducible refine (r06_Reader_index.calls k g s0_0 s0_1 s0_2 s0_3 s0_4 s0_5 98 255 7 t374 t375 t376 t377 t378 t379 w0 _ ?side1 ?side2 A2.out).mono ?_);(case side1=>repeat (first | (with_reducible first | exact HI0.out | apply IsS89.alloc | apply IsS89.drewN | apply IsS89.drew | apply IsS89.set_1 | apply IsS89.set_2 | apply IsS89.set_3 | apply IsS89.set_4 | apply IsS89.set_5) | exact HI0.out));(case side2=>repeat (first | (with_reducible first | exact HB.out | apply below_alloc | apply pw_below_drewN | apply below_drew1 | refine below_set ?_ (IsS89.ge HI0.out)) | exact HB.out));rintro e w3 ⟨rfl,hi,hb,hk⟩;refine ⟨_,rfl,?_⟩;have n0_:=aM (KeepBut.trans (by repeat (first | (with_reducible first | exact HK.out | apply KeepBut.set_ | apply keep_drewN | apply keep_drew | apply keep_alloc) | exact HK.out)) hk (.inl rfl));have n1_:=aM (hb);have n2_:=aM (hi);clear HK;clear HB;clear HI0;have HK:=n0_;have HB:=n1_;have HI0:=n2_;clear n0_ n1_ n2_;(try clear hb);(try clear hb2);(try clear hk);(try clear hi)))
 go_ret
 exact ⟨zF,by repeat (first | (with_reducible first | exact HI0.out | apply IsS89.alloc | apply IsS89.drewN | apply IsS89.drew | apply IsS89.set_1 | apply IsS89.set_2 | apply IsS89.set_3 | apply IsS89.set_4 | apply IsS89.set_5) | exact HI0.out),zC HB.out (IsS89.ge HI0.out),by repeat (first | (with_reducible first | exact HK.out | apply KeepBut.set_ | apply keep_drewN | apply keep_drew | apply keep_alloc) | exact HK.out)⟩
end Go.Proofs.Ytkjdblbgmomieaa.PSh
end
-- from YtkjdblbgmomieaaHRIx
section
namespace Go.Proofs.Ytkjdblbgmomieaa.PSh
open Go.RowKit Go.Proofs.YtkjdblbgmomieaaW.PrintWords Go.Proofs.YtkjdblbgmomieaaW.PrintLast Go.Proofs.YtkjdblbgmomieaaW.PrintMore Go.Proofs.Ytkjdblbgmomieaa.Str
set_option linter.unusedVariables false
set_option linter.unusedSimpArgs false
def iObj (x:S39) (va vt:Value):Array Value:=#[.int .i64 x.f0,.int .i64 x.f1,.int .i64 x.f2,.int .i64 x.f3,va,vt,.string x.f6,.int .i64 x.f7]
structure TwoR (w':World) (base:Nat) (va vt:Value) (xa xt:List Int):Prop where
  ra:Kd.R (Kd.int .i64) 3 w' base (fun _=>True) va xa
  rt:Kd.R (Kd.int .i64) 3 w' base (fun _=>True) vt xt
  ap:∀ k,va.ownBlock=some k→vt.ownBlock≠some k
section
variable {w1 w2 : World} {base : Nat} {va vt v1 : Value} {xa xt ys : List Int}
theorem TwoR.nil (w':World) (base:Nat):TwoR w' base (.slice none 0 0) (.slice none 0 0) [] []:=⟨Kd.R_nil _ _ _ _ _,Kd.R_nil _ _ _ _ _,fun k h=>by simp [Value.ownBlock] at h⟩
theorem TwoR.below (h:TwoR w1 base va vt xa xt) (hb:Below w1.heap.size w1 w2):TwoR w2 base va vt xa xt:=⟨Kd.R_below h.ra hb,Kd.R_below h.rt hb,h.ap⟩
theorem TwoR.lower {b2:Nat} (h:TwoR w1 base va vt xa xt) (hb:b2≤base):TwoR w1 b2 va vt xa xt:=⟨Kd.R_lower h.ra hb,Kd.R_lower h.rt hb,h.ap⟩
theorem TwoR.keep (h:TwoR w1 base va vt xa xt) {g t:Nat} {cells:Array Value} (hG:w1.heap[g]?=some (.cells cells t (0,0))) (ht:3≠t) (hk:KeepBut w1 w2 g none):TwoR w2 base va vt xa xt:=
  ⟨Kd.R_mono (Kd.R_step (Kd.R_far1 h.ra rfl (Kd.R_ne h.ra hG ht)) (fun k ho hlt=>hk.2 k hlt ho.2 (by simp))) (fun _ _=>trivial),Kd.R_mono (Kd.R_step (Kd.R_far1 h.rt rfl (Kd.R_ne h.rt hG ht)) (fun k ho hlt=>hk.2 k hlt ho.2 (by simp))) (fun _ _=>trivial),h.ap⟩
theorem TwoR.set (h:TwoR w1 base va vt xa xt) {g t:Nat} {cells:Array Value} (hG:w1.heap[g]?=some (.cells cells t (0,0))) (ht:3≠t) (j:Nat) (u:Value):TwoR (w1.setCell ⟨g,j,none⟩ u) base va vt xa xt:=
  ⟨Kd.R_mono (Kd.R_far (p:=⟨g,j,none⟩) (Kd.R_far1 h.ra rfl (Kd.R_ne h.ra hG ht)) (fun _ hk=>hk.2) u) (fun _ _=>trivial),Kd.R_mono (Kd.R_far (p:=⟨g,j,none⟩) (Kd.R_far1 h.rt rfl (Kd.R_ne h.rt hG ht)) (fun _ hk=>hk.2) u) (fun _ _=>trivial),h.ap⟩
theorem TwoR.appA (h:TwoR w1 base va vt xa xt) (hr:Kd.R (Kd.int .i64) 3 w2 base (fun _=>True) v1 ys) (hg:w1.grownBy w2 va.ownBlock) (hv:v1.ownBlock=va.ownBlock∨∃ b,v1.ownBlock=some b∧w1.heap.size≤b):TwoR w2 base v1 vt ys xt:=by
  refine ⟨hr,Kd.R_grown2 h.rt rfl hg (fun k e e2=>h.ap k e e2.symm),fun k e e2=>?_⟩
  rcases hv with hv | ⟨b,hv,hb⟩
  · exact h.ap k (hv ▸ e) e2
  · have h1:=Kd.R_lt h.rt k e2
    rw [hv] at e
    injection e with e
    omega
theorem TwoR.appT (h:TwoR w1 base va vt xa xt) (hr:Kd.R (Kd.int .i64) 3 w2 base (fun _=>True) v1 ys) (hg:w1.grownBy w2 vt.ownBlock) (hv:v1.ownBlock=vt.ownBlock∨∃ b,v1.ownBlock=some b∧w1.heap.size≤b):TwoR w2 base va v1 xa ys:=by
  refine ⟨Kd.R_grown2 h.ra rfl hg (fun k e e2=>h.ap k e2.symm e),hr,fun k e e2=>?_⟩
  rcases hv with hv | ⟨b,hv,hb⟩
  · exact h.ap k e (hv ▸ e2)
  · have h1:=Kd.R_lt h.ra k e
    rw [hv] at e2
    injection e2 with e2
    omega
end
structure IXAt (g bz bx:Nat) (z:Array Value) (tl:List (S101)) (x:S39) (va vt:Value) (s1 s2 s3 s4 s5:Int) (w0 w w':World):Prop where
  i:IsS89 w0 w' g tl s1 s2 s3 s4 s5
  b:Below w0.heap.size w0 w'
  k:KeepBut w w' g none
  wb:w0.heap.size≤w.heap.size
  gl:g<w.heap.size
  ge:w.heap.size≤bz
  lt:bz<bx
  zero:w'.heap[bz]?=some (.cells z 39 (0,0))
  box:w'.heap[bx]?=some (.cells (iObj x va vt) 39 (0,0))
  two:TwoR w' w.heap.size va vt x.f4 x.f5
section
variable {g bz bx : Nat} {z : Array Value} {tl : List (S101)} {x : S39} {va vt v1 : Value} {ys : List Int} {s1 s2 s3 s4 s5 r1 r2 r3 r4 r5 : Int} {w0 w w1 w2 : World}
theorem IXAt.call (h:IXAt g bz bx z tl x va vt s1 s2 s3 s4 s5 w0 w w1) (hi:IsS89 w0 w2 g tl r1 r2 r3 r4 r5) (hb:Below w0.heap.size w0 w2) (hk:KeepBut w1 w2 g none):IXAt g bz bx z tl x va vt r1 r2 r3 r4 r5 w0 w w2:=by
  obtain ⟨A0,c0,hG,-,-⟩:=h.i
  have h1:=h.gl
  have h2:=h.ge
  have h3:=h.lt
  exact ⟨hi,hb,h.k.trans hk (.inl rfl),h.wb,h.gl,h.ge,h.lt,hk.blk h.zero (by omega) (by simp),hk.blk h.box (by omega) (by simp),h.two.keep hG (by decide) hk⟩
theorem IXAt.below (h:IXAt g bz bx z tl x va vt s1 s2 s3 s4 s5 w0 w w1) (hb:Below w1.heap.size w1 w2):IXAt g bz bx z tl x va vt s1 s2 s3 s4 s5 w0 w w2:=
  ⟨h.i.below hb,below_step h.b hb,h.k.trans (KeepBut.of_below hb g none) (.inl rfl),h.wb,h.gl,h.ge,h.lt,blk_below h.zero hb,blk_below h.box hb,h.two.below hb⟩
theorem IXAt.put (h:IXAt g bz bx z tl x va vt s1 s2 s3 s4 s5 w0 w w1) (x2:S39) (j:Nat) (u:Value) (hc:(iObj x va vt).setIfInBounds j u=iObj x2 va vt) (h4:x2.f4=x.f4) (h5:x2.f5=x.f5):IXAt g bz bx z tl x2 va vt s1 s2 s3 s4 s5 w0 w (w1.setCell ⟨bx,j,none⟩ u):=by
  have h1:=h.gl
  have h2:=h.ge
  have h3:=h.lt
  have h6:=h.wb
  exact ⟨h.i.far (by show g≠bx;omega) u,below_set h.b (by show _≤bx;omega),keep_far h.k (by show _≤bx;omega) u,h.wb,h.gl,h.ge,h.lt,(Below.heap_setCell w1 ⟨bx,j,none⟩ u _ (by show bz≠bx;omega)).trans h.zero,blk_put h.box j u hc,by rw [h4,h5];exact h.two.set h.box (by decide) j u⟩
theorem IXAt.setz (h:IXAt g bz bx z tl x va vt s1 s2 s3 s4 s5 w0 w w1) (j:Nat) (u:Value):IXAt g bz bx (z.setIfInBounds j u) tl x va vt s1 s2 s3 s4 s5 w0 w (w1.setCell ⟨bz,j,none⟩ u):=by
  have h1:=h.gl
  have h2:=h.ge
  have h3:=h.lt
  have h6:=h.wb
  exact ⟨h.i.far (by show g≠bz;omega) u,below_set h.b (by show _≤bz;omega),keep_far h.k (by show _≤bz;omega) u,h.wb,h.gl,h.ge,h.lt,blk_put h.zero j u rfl,(Below.heap_setCell w1 ⟨bz,j,none⟩ u _ (by show bx≠bz;omega)).trans h.box,h.two.set h.zero (by decide) j u⟩
theorem IXAt.app (h:IXAt g bz bx z tl x va vt s1 s2 s3 s4 s5 w0 w w1) {row:Option Nat} (hg:w1.grownBy w2 row) (hrow:row=va.ownBlock∨row=vt.ownBlock) (x2:S39) (j:Nat) {va2 vt2:Value} (u:Value) (hc:(iObj x va vt).setIfInBounds j u=iObj x2 va2 vt2) (h2r:TwoR w2 w.heap.size va2 vt2 x2.f4 x2.f5):IXAt g bz bx z tl x2 va2 vt2 s1 s2 s3 s4 s5 w0 w (w2.setCell ⟨bx,j,none⟩ u):=by
  have h1:=h.gl
  have h2:=h.ge
  have h3:=h.lt
  have h6:=h.wb
  obtain ⟨A0,c0,hG,-,-⟩:=h.i
  have ne:∀ {g' t:Nat} {cells:Array Value},w1.heap[g']?=some (.cells cells t (0,0))→3≠t→some g'≠row:=fun hG ht=>by
    rcases hrow with e | e
    · rw [e]
      exact Kd.R_ne h.two.ra hG ht
    · rw [e]
      exact Kd.R_ne h.two.rt hG ht
  have bs:∀ k,row=some k→w.heap.size≤k:=fun k e=>by
    rcases hrow with e2 | e2
    · exact Kd.R_base h.two.ra k (e2 ▸ e)
    · exact Kd.R_base h.two.rt k (e2 ▸ e)
  have hz:=(hg.block bz (blk_lt h.zero) (ne h.zero (by decide))).trans h.zero
  have hx:=(hg.block bx (blk_lt h.box) (ne h.box (by decide))).trans h.box
  have hb:Below w0.heap.size w0 w2:=pw_below_grown h.b row (Nat.le_trans h.wb (keep_size h.k)) hg (fun k e=>Nat.le_trans h.wb (bs k e))
  have hkk:KeepBut w w2 g none:=h.k.trans (KeepBut.of_grown hg g) (by
    cases hr:row with
    | none=>exact .inl rfl
    | some k=>exact .inr ⟨k,rfl,bs k hr⟩)
  exact ⟨(h.i.grown hg (ne hG (by decide))).far (by show g≠bx;omega) _,below_set hb (by show _≤bx;omega),keep_far hkk (by show _≤bx;omega) _,h.wb,h.gl,h.ge,h.lt,(Below.heap_setCell w2 ⟨bx,j,none⟩ u _ (by show bz≠bx;omega)).trans hz,blk_put hx j u hc,h2r.set hx (by decide) j u⟩
theorem IXAt.fin (h:IXAt g bz bx #[.int .i64 0,.int .i64 0,.int .i64 0,.int .i64 0,.slice none 0 0,.slice none 0 0,.string ⟨#[]⟩,.int .i64 0] tl x va vt s1 s2 s3 s4 s5 w0 w w1) {a t:Value} {xs zs:List Int} (ht:TwoR w1 w.heap.size a t xs zs) (c0 c1 c2 c3 c4 c5 c6 c7:Value):
    ((((((((((w1.setCell ⟨bz,0,none⟩ c0).setCell ⟨bz,1,none⟩ c1).setCell ⟨bz,2,none⟩ c2).setCell ⟨bz,3,none⟩ c3).setCell ⟨bz,4,none⟩ c4).setCell ⟨bz,5,none⟩ c5).setCell ⟨bz,6,none⟩ c6).setCell ⟨bz,7,none⟩ c7)).heap[bz]?=some (.cells #[c0,c1,c2,c3,c4,c5,c6,c7] 39 (0,0)))∧
    TwoR ((((((((w1.setCell ⟨bz,0,none⟩ c0).setCell ⟨bz,1,none⟩ c1).setCell ⟨bz,2,none⟩ c2).setCell ⟨bz,3,none⟩ c3).setCell ⟨bz,4,none⟩ c4).setCell ⟨bz,5,none⟩ c5).setCell ⟨bz,6,none⟩ c6).setCell ⟨bz,7,none⟩ c7) w.heap.size a t xs zs∧
    IsS89 w0 ((((((((w1.setCell ⟨bz,0,none⟩ c0).setCell ⟨bz,1,none⟩ c1).setCell ⟨bz,2,none⟩ c2).setCell ⟨bz,3,none⟩ c3).setCell ⟨bz,4,none⟩ c4).setCell ⟨bz,5,none⟩ c5).setCell ⟨bz,6,none⟩ c6).setCell ⟨bz,7,none⟩ c7) g tl s1 s2 s3 s4 s5∧
    Below w0.heap.size w0 ((((((((w1.setCell ⟨bz,0,none⟩ c0).setCell ⟨bz,1,none⟩ c1).setCell ⟨bz,2,none⟩ c2).setCell ⟨bz,3,none⟩ c3).setCell ⟨bz,4,none⟩ c4).setCell ⟨bz,5,none⟩ c5).setCell ⟨bz,6,none⟩ c6).setCell ⟨bz,7,none⟩ c7)∧
    KeepBut w ((((((((w1.setCell ⟨bz,0,none⟩ c0).setCell ⟨bz,1,none⟩ c1).setCell ⟨bz,2,none⟩ c2).setCell ⟨bz,3,none⟩ c3).setCell ⟨bz,4,none⟩ c4).setCell ⟨bz,5,none⟩ c5).setCell ⟨bz,6,none⟩ c6).setCell ⟨bz,7,none⟩ c7) g none:=by
  have h0:=h.setz 0 c0
  have t0:=ht.set h.zero (by decide) 0 c0
  have h1:=h0.setz 1 c1
  have t1:=t0.set h0.zero (by decide) 1 c1
  have h2:=h1.setz 2 c2
  have t2:=t1.set h1.zero (by decide) 2 c2
  have h3:=h2.setz 3 c3
  have t3:=t2.set h2.zero (by decide) 3 c3
  have h4:=h3.setz 4 c4
  have t4:=t3.set h3.zero (by decide) 4 c4
  have h5:=h4.setz 5 c5
  have t5:=t4.set h4.zero (by decide) 5 c5
  have h6:=h5.setz 6 c6
  have t6:=t5.set h5.zero (by decide) 6 c6
  have h7:=h6.setz 7 c7
  have t7:=t6.set h6.zero (by decide) 7 c7
  refine ⟨h7.zero.trans ?_,t7,h7.i,h7.b,h7.k⟩
  simp only [qA,qB,qC]
theorem IXAt.at1 (h:IXAt g bz bx z tl x va vt s1 s2 s3 s4 s5 w0 w w1) (j:Nat):w1.cell? ⟨bx,j,none⟩=(iObj x va vt)[j]?:=blk_cell h.box j
theorem IXAt.code (h:IXAt g bz bx z tl x va vt s1 s2 s3 s4 s5 w0 w w1):w1.cell? ⟨g,4,none⟩=some (.int .i64 s4):=by
  obtain ⟨A0,c0,hG,-,-⟩:=h.i
  exact blk_cell hG 4
theorem IXAt.sl (h:IXAt g bz bx z tl x va vt s1 s2 s3 s4 s5 w0 w w1):∃ Aa ca At ct,va=.slice Aa x.f4.length ca∧vt=.slice At x.f5.length ct:=by
  obtain ⟨Aa,ca,ea⟩:=Kd.R_slice h.two.ra
  obtain ⟨At,ct,et⟩:=Kd.R_slice h.two.rt
  exact ⟨Aa,ca,At,ct,ea,et⟩
end
end Go.Proofs.Ytkjdblbgmomieaa.PSh
end
-- from YtkjdblbgmomieaaHPIx
section
namespace Go.Proofs.Ytkjdblbgmomieaa.PSh
open Go.RowKit Go.Proofs.YtkjdblbgmomieaaW.PrintWords Go.Proofs.YtkjdblbgmomieaaW.PrintLast Go.Proofs.YtkjdblbgmomieaaW.PrintMore Go.Proofs.Ytkjdblbgmomieaa.Str Go.Proofs.Ytkjdblbgmomieaa.Dig Go.Proofs.Ytkjdblbgmomieaa.DigLaw
set_option linter.unusedVariables false
set_option linter.unusedSimpArgs false
theorem keep_weak {w w1:World} {g:Nat} {row:Option Nat} (h:KeepBut w w1 g none):KeepBut w w1 g row:=⟨h.1,fun i hi hg _=>h.2 i hi hg (by simp)⟩
theorem keep_own {w w1:World} {g bx:Nat} (h:KeepBut w w1 g (some bx)) (j:Nat) (u:Value):KeepBut w (w1.setCell ⟨bx,j,none⟩ u) g (some bx):=
  ⟨by simpa [World.setCell] using h.1,fun i hi hg hr=>(Below.heap_setCell w1 ⟨bx,j,none⟩ u i (fun e=>hr (by rw [e]))).trans (h.2 i hi hg hr)⟩
theorem bind_ok {α β:Type} (a:α) (f:α→PE β):Except.bind (Except.ok a:PE α) f=f a:=rfl
theorem bind_err {α β:Type} (x:Int × Int) (f:α→PE β):Except.bind (Except.error x:PE α) f=.error x:=rfl
theorem indexP_ok {en sign most c:Int} {ts us:List Tk} {v:Int} (h:indexP en sign most c ts=.ok (v,us)):us=ts.tail∧us.length+1=ts.length:=by
  unfold indexP failP at h
  by_cases c1:(pk0 ts).size<2
  · rw [if_pos c1] at h;cases h
  rw [if_neg c1] at h
  have hne:ts≠[]:=size_ne (by omega)
  split at h
  · cases h
  split at h
  · injection h with h
    injection h with h1 h2
    refine ⟨h2.symm,?_⟩
    rw [← h2]
    cases ts with
    | nil=>exact absurd rfl hne
    | cons t ts=>rfl
  · cases h
theorem int_new {W:World} {base:Nat} (hb:base≤W.heap.size) (ys:List Int) (hl:ys.length≤100):Kd.R (Kd.int .i64) 3 (W.alloc (.cells (ys.map (Value.int .i64)).toArray 3)) base (fun _=>True) (.slice (some ⟨W.heap.size,0,none⟩) ys.length ys.length) ys:=
  Kd.R_of_own ⟨by simp [encs],.inr ⟨W.heap.size,ys.length,_,rfl,hb,blk_new W _,Nat.le_refl _,by simp only [maxLen];omega,by simp,by simp [encs];rw [List.take_of_length_le (by simp)]⟩⟩ (fun _ _=>trivial)
structure IPAt (g bx:Nat) (tl ts:List Tk) (x:SI) (va vt:Value) (en n:Int) (w0 w w':World):Prop where
  p:PAt g tl ts en n w0 w'
  k:KeepBut w w' g (some bx)
  wb:w0.heap.size≤w.heap.size
  bb:w0.heap.size≤bx
  box:w'.heap[bx]?=some (.cells (iObj x va vt) 39 (0,0))
  two:TwoR w' w.heap.size va vt x.f4 x.f5
section
variable {g bx : Nat} {tl ts us : List Tk} {x : SI} {va vt v1 : Value} {en n m : Int} {w0 w w1 w2 : World}
theorem IPAt.gx (h:IPAt g bx tl ts x va vt en n w0 w w1):g≠bx:=by
  obtain ⟨cells,hc⟩:=h.p.blk
  exact blk_ne hc h.box (by decide)
theorem IPAt.call (h:IPAt g bx tl ts x va vt en n w0 w w1) (hp:PAt g tl us en m w0 w2) (hk:KeepBut w1 w2 g none):IPAt g bx tl us x va vt en m w0 w w2:=by
  obtain ⟨cells,hc⟩:=h.p.blk
  exact ⟨hp,h.k.trans (keep_weak hk) (.inl rfl),h.wb,h.bb,hk.blk h.box h.gx.symm (by simp),h.two.keep hc (by decide) hk⟩
theorem IPAt.below (h:IPAt g bx tl ts x va vt en n w0 w w1) (hb:Below w1.heap.size w1 w2):IPAt g bx tl ts x va vt en n w0 w w2:=h.call (h.p.below hb) (KeepBut.of_below hb g none)
theorem IPAt.bad (h:IPAt g bx tl ts x va vt en n w0 w w1) (hb:Below w0.heap.size w0 w2) (hk:KeepBut w1 w2 g none):Below w0.heap.size w0 w2∧KeepBut w w2 g (some bx):=⟨hb,h.k.trans (keep_weak hk) (.inl rfl)⟩
theorem IPAt.put (h:IPAt g bx tl ts x va vt en n w0 w w1) (x2:SI) (j:Nat) (u:Value) (hc:(iObj x va vt).setIfInBounds j u=iObj x2 va vt) (h4:x2.f4=x.f4) (h5:x2.f5=x.f5):IPAt g bx tl ts x2 va vt en n w0 w (w1.setCell ⟨bx,j,none⟩ u):=
  ⟨h.p.far h.gx h.bb j u,keep_own h.k j u,h.wb,h.bb,blk_put h.box j u hc,by rw [h4,h5];exact h.two.set h.box (by decide) j u⟩
theorem IPAt.app (h:IPAt g bx tl ts x va vt en n w0 w w1) {row:Option Nat} (hg:w1.grownBy w2 row) (hrow:row=va.ownBlock∨row=vt.ownBlock) (x2:SI) (j:Nat) {va2 vt2:Value} (u:Value) (hc:(iObj x va vt).setIfInBounds j u=iObj x2 va2 vt2) (h2r:TwoR w2 w.heap.size va2 vt2 x2.f4 x2.f5):IPAt g bx tl ts x2 va2 vt2 en n w0 w (w2.setCell ⟨bx,j,none⟩ u):=by
  obtain ⟨cells,hG⟩:=h.p.blk
  have ne:∀ {g' t:Nat} {cells:Array Value},w1.heap[g']?=some (.cells cells t (0,0))→3≠t→some g'≠row:=fun hG ht=>by
    rcases hrow with e | e
    · rw [e];exact Kd.R_ne h.two.ra hG ht
    · rw [e];exact Kd.R_ne h.two.rt hG ht
  have bs:∀ k,row=some k→w.heap.size≤k:=fun k e=>by
    rcases hrow with e2 | e2
    · exact Kd.R_base h.two.ra k (e2 ▸ e)
    · exact Kd.R_base h.two.rt k (e2 ▸ e)
  have hx:=(hg.block bx (blk_lt h.box) (ne h.box (by decide))).trans h.box
  have hp:=h.p.grown hg (ne hG (by decide)) (fun k e=>Nat.le_trans h.wb (bs k e))
  have hk:KeepBut w w2 g (some bx):=by
    refine ⟨Nat.le_trans h.k.1 hg.size,fun i hi hgi hr=>(hg.block i (Nat.lt_of_lt_of_le hi h.k.1) (fun e=>?_)).trans (h.k.2 i hi hgi hr)⟩
    have:=bs i e.symm
    omega
  exact ⟨hp.far h.gx h.bb j u,keep_own hk j u,h.wb,h.bb,blk_put hx j u hc,h2r.set hx (by decide) j u⟩
theorem IPAt.newA (h:IPAt g bx tl ts x va vt en n w0 w w1) (ys:List Int) (hl:ys.length≤100):IPAt g bx tl ts { x with f4:=ys } (.slice (some ⟨w1.heap.size,0,none⟩) ys.length ys.length) vt en n w0 w ((w1.alloc (.cells (ys.map (Value.int .i64)).toArray 3)).setCell ⟨bx,4,none⟩ (.slice (some ⟨w1.heap.size,0,none⟩) ys.length ys.length)):=by
  have hb:=below_alloc (Below.refl w1.heap.size w1) (.cells (ys.map (Value.int .i64)).toArray 3)
  have h2:=h.below hb
  refine ⟨h2.p.far h2.gx h2.bb _ _,keep_own h2.k _ _,h.wb,h.bb,blk_put h2.box 4 _ rfl,?_⟩
  have hT:TwoR (w1.alloc (.cells (ys.map (Value.int .i64)).toArray 3)) w.heap.size (.slice (some ⟨w1.heap.size,0,none⟩) ys.length ys.length) vt ys x.f5:=
    ⟨int_new h.k.1 ys hl,h2.two.rt,fun k e e2=>by
      have:=Kd.R_lt h.two.rt k e2
      simp only [Value.ownBlock,Option.some.injEq] at e
      omega⟩
  exact hT.set h2.box (by decide) 4 _
theorem IPAt.newT (h:IPAt g bx tl ts x va vt en n w0 w w1) (ys:List Int) (hl:ys.length≤100):IPAt g bx tl ts { x with f5:=ys } va (.slice (some ⟨w1.heap.size,0,none⟩) ys.length ys.length) en n w0 w ((w1.alloc (.cells (ys.map (Value.int .i64)).toArray 3)).setCell ⟨bx,5,none⟩ (.slice (some ⟨w1.heap.size,0,none⟩) ys.length ys.length)):=by
  have hb:=below_alloc (Below.refl w1.heap.size w1) (.cells (ys.map (Value.int .i64)).toArray 3)
  have h2:=h.below hb
  refine ⟨h2.p.far h2.gx h2.bb _ _,keep_own h2.k _ _,h.wb,h.bb,blk_put h2.box 5 _ rfl,?_⟩
  have hT:TwoR (w1.alloc (.cells (ys.map (Value.int .i64)).toArray 3)) w.heap.size va (.slice (some ⟨w1.heap.size,0,none⟩) ys.length ys.length) x.f4 ys:=
    ⟨h2.two.ra,int_new h.k.1 ys hl,fun k e e2=>by
      have:=Kd.R_lt h.two.ra k e
      simp only [Value.ownBlock,Option.some.injEq] at e2
      omega⟩
  exact hT.set h2.box (by decide) 5 _
theorem IPAt.at1 (h:IPAt g bx tl ts x va vt en n w0 w w1) (j:Nat):w1.cell? ⟨bx,j,none⟩=(iObj x va vt)[j]?:=blk_cell h.box j
theorem IPAt.step (h:IPAt g bx tl ts x va vt en n w0 w w1) {u:Value} (hp:PAt g tl us en m w0 (w1.setCell ⟨g,1,none⟩ u)):IPAt g bx tl us x va vt en m w0 w (w1.setCell ⟨g,1,none⟩ u):=h.call hp ((KeepBut.refl w1 g none).set_ 1 _)
theorem IPAt.sl (h:IPAt g bx tl ts x va vt en n w0 w w1):∃ Aa ca At ct,va=.slice Aa x.f4.length ca∧vt=.slice At x.f5.length ct:=by
  obtain ⟨Aa,ca,ea⟩:=Kd.R_slice h.two.ra
  obtain ⟨At,ct,et⟩:=Kd.R_slice h.two.rt
  exact ⟨Aa,ca,At,ct,ea,et⟩
end
section
variable {P : Program} {ops : Array Oper} {Q : Exit → Act → World → Prop}
theorem callP_ {oi:Oper} {N:Option Tmp} {a:Act} {w:World} {K:Act→World→Prop} (f:FuncId) (args:Array Value) (hw:Region.wanted oi (yielded ops a.tmps)=true) (hN:oi.dst=N) (hrun:(execOp a.eval oi).run P w=.ok (.enter f args) w)
    (h:Calls P f args w fun e w'=>(∃ v,e=.returned v∧K (a.put N v) w')∨∃ ch,e=.panicked ch∧Q (.panic ch) a w'):if Region.wanted oi (yielded ops a.tmps)=true then Oper.wp P oi a w K Q else K (a.put N undef) w:=by
  rw [if_pos hw]
  subst hN
  unfold Oper.wp
  rw [hrun,Oper.upon_enter]
  refine h.mono fun e w'' hh=>?_
  rcases hh with ⟨v,rfl,hk⟩ | ⟨ch,rfl,hq⟩
  · exact hk
  · exact hq
theorem goesP_ {oi : Oper} {N : Option Tmp} {a : Act} {w : World} {K : Act → World → Prop} {f : FuncId} {fn : Func} {ar : Array Operand} {ts : Array TypeId} (hf : P.funcs[f]? = some fn) (hname : (fn.name == "runtime.NumGoroutine") = false) (hb : fn.body.isSome = true) (args : Array Value)
    (hw:Region.wanted oi (yielded ops a.tmps)=true) (hN:oi.dst=N) (hop:oi.op=.call { callee:=.value (.func f),args:=ar,argTypes:=ts }) (hargs:ar.map a.eval=args)
    (h:Calls P f args w fun e w'=>(∃ v,e=.returned v∧K (a.put N v) w')∨∃ ch,e=.panicked ch∧Q (.panic ch) a w'):if Region.wanted oi (yielded ops a.tmps)=true then Oper.wp P oi a w K Q else K (a.put N undef) w:=by
  refine callP_ f args hw hN ?_ h
  have he:=enters_ hf hname hb args w
  unfold execOp
  simp [hop,resolve,Deferred.ofValue,invoke,Act.eval,hargs,he]
theorem goesVP_ {oi : Oper} {N : Option Tmp} {a : Act} {w : World} {K : Act → World → Prop} {f : FuncId} {fn : Func} {x : Operand} {ts : Array TypeId} (hf : P.funcs[f]? = some fn) (hname : (fn.name == "runtime.NumGoroutine") = false) (hb : fn.body.isSome = true) (args : Array Value)
    (hw:Region.wanted oi (yielded ops a.tmps)=true) (hN:oi.dst=N) (hop:oi.op=.call { callee:=.value x,args:=#[],argTypes:=ts }) (hx:a.eval x=.func (.func f) args #[])
    (h:Calls P f args w fun e w'=>(∃ v,e=.returned v∧K (a.put N v) w')∨∃ ch,e=.panicked ch∧Q (.panic ch) a w'):if Region.wanted oi (yielded ops a.tmps)=true then Oper.wp P oi a w K Q else K (a.put N undef) w:=by
  refine callP_ f args hw hN ?_ h
  have he:=enters_ hf hname hb args w
  unfold execOp
  simp [hop,resolve,Deferred.ofValue,invoke,hx,he]
end
end Go.Proofs.Ytkjdblbgmomieaa.PSh
end
