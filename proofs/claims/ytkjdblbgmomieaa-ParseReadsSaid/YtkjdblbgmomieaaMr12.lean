import Derived.Test.YtkjdblbgmomieaaMr2
import Derived.Test.YtkjdblbgmomieaaMr11
import Derived.Test.YtkjdblbgmomieaaMr3
-- from YtkjdblbgmomieaaPShx19
section
namespace Go.Proofs.Ytkjdblbgmomieaa.PSh
set_option maxHeartbeats 8000000
set_option maxRecDepth 100000
open Go.RowKit Go.Proofs.YtkjdblbgmomieaaW.PrintWords Go.Proofs.YtkjdblbgmomieaaW.PrintLast Go.Proofs.YtkjdblbgmomieaaW.PrintMore Go.Proofs.Ytkjdblbgmomieaa.Zip
attribute [local go_sem] max2_int min2_int max_two min_two max_three min_three max_four min_four   -- for this text's walks alone
set_option linter.unusedVariables false
set_option linter.unusedSimpArgs false
mutual
def r02_Split.l0:Nat→ByteArray→List (S101)→Int→Option ((List (S101)) × Int × Int)
 | 0,_,_,_=>none
 | k+1,x0,x4,x5=>if x5<(x0.size:Int) then (if 0≤x5 then ((r02_in.f k (bt x0 x5) (⟨#[32,9,10,13]⟩:ByteArray)).bind fun t269=>(if t269=true then (r02_Split.l0 k x0 x4 (wrap64 (x5+1))) else (if (bt x0 x5)=35 then (r02_Split.l1 k x0 x4 x5) else ((r02_in.f k (bt x0 x5) (⟨#[40,41,123,125,61,58]⟩:ByteArray)).bind fun t270=>(if t270=true then (if x5≤(wrap64 (x5+1)) then (if (wrap64 (x5+1))≤(x0.size:Int) then (if x4.length<5864062014805 then (r02_Split.l0 k x0 (x4++[(⟨x0.extract (x5:Int).toNat ((wrap64 (x5+1)):Int).toNat,x5⟩:S101)]) (wrap64 (x5+1))) else (none)) else (none)) else (none)) else ((r02_letter.f k (bt x0 x5)).bind fun t274=>(if t274=true then (r02_Split.l2 k x0 x4 x5 x5) else (some (([]:List (S101)),1,x5))))))))) else (none)) else (some (x4,0,0))
def r02_Split.l1:Nat→ByteArray→List (S101)→Int→Option ((List (S101)) × Int × Int)
 | 0,_,_,_=>none
 | k+1,x0,x4,x5=>if x5<(x0.size:Int) then (if 0≤x5 then (if (bt x0 x5)=10 then (r02_Split.l0 k x0 x4 x5) else (r02_Split.l1 k x0 x4 (wrap64 (x5+1)))) else (none)) else (r02_Split.l0 k x0 x4 x5)
def r02_Split.l2:Nat→ByteArray→List (S101)→Int→Int→Option ((List (S101)) × Int × Int)
 | 0,_,_,_,_=>none
 | k+1,x0,x4,x5,x7=>if x7<(x0.size:Int) then (if 0≤x7 then ((r02_letter.f k (bt x0 x7)).bind fun t275=>(if t275=true then (r02_Split.l2 k x0 x4 x5 (wrap64 (x7+1))) else (if 0≤x5 then (if x5≤x7 then (if x7≤(x0.size:Int) then (if x4.length<5864062014805 then (r02_Split.l0 k x0 (x4++[(⟨x0.extract (x5:Int).toNat (x7:Int).toNat,x5⟩:S101)]) x7) else (none)) else (none)) else (none)) else (none)))) else (none)) else (if 0≤x5 then (if x5≤x7 then (if x7≤(x0.size:Int) then (if x4.length<5864062014805 then (r02_Split.l0 k x0 (x4++[(⟨x0.extract (x5:Int).toNat (x7:Int).toNat,x5⟩:S101)]) x7) else (none)) else (none)) else (none)) else (none))
end
def r02_Split.f (k:Nat) (a0:ByteArray):Option ((List (S101)) × Int × Int):=if (a0.size:Int)>65536 then (some (([]:List (S101)),6,65536)) else (r02_Split.l0 k a0 ([]:List (S101)) 0)
theorem r02_Split.calls (k:Nat) (a0:ByteArray) (r1:List (S101)) (r2:Int) (r3:Int) (w:World) (h:r02_Split.f k a0=some (r1,r2,r3)):
  Calls Try.prog 60 #[.string a0] w fun e w'=>∃ v0_:Value,e=.returned (.tuple #[v0_,.agg #[.int .i64 r2,.int .i64 r3]])∧Kd.R k101 101 w' w.heap.size (fun _=>True) v0_ r1∧Below w.heap.size w w':=by
 have HB:=aM (Below.refl w.heap.size w)
 have H:(if (a0.size:Int)>65536 then (some (([]:List (S101)),6,65536)) else (r02_Split.l0 k a0 ([]:List (S101)) 0))=some (r1,r2,r3):=h
 clear h
 by_cases c2:(a0.size:Int)>65536
 ·rw [if_pos c2] at H
  have c2b0:decide (65536<(a0.size:Int))=true:=decide_eq_true c2
  clear c2
  simp only [Option.some.injEq,Prod.mk.injEq] at H
  obtain ⟨rfl,rfl,rfl⟩:=H
  go_enter Try.func60,Try.ntmps60
  go_wp2_with (first | ((with_reducible refine gate_dst (N:=3) rfl ?_);refine box_event ?hg (N:=3) ?hd (cs:=#[.int .i64 0,.int .i64 0]) (t:=28) ?hr ?_;(case hd=>rfl);(case hg=>rfl);(case hr=>first | (go_simp;done) | (go_simp;rfl));intro gb268 hg w3 hbox hb;have n0_:=aM (below_step (zB HB.out) hb);have n1_:=aM (hbox);have n2_:=aM ((by rw [hg];exact (below_size (zB HB.out)):w.heap.size≤gb268));have n3_:=aM ((by rw [hg];exact (below_size (zB HB.out)):w.heap.size≤gb268));clear HB;have HB:=n0_;have BK268:=n1_;have GE268:=n3_;clear n0_ n1_ n2_ n3_;clear hb hbox hg;have hcz4_0:w3.cell? ⟨gb268,0,none⟩=some (.int .i64 0):=(blk_cell BK268.out 0).trans rfl;have hcz4_1:w3.cell? ⟨gb268,1,none⟩=some (.int .i64 0):=(blk_cell BK268.out 1).trans rfl;have hfz4_0:=blk_frozen BK268.out 0;have hfz4_1:=blk_frozen BK268.out 1))
  refine bodyPost_ret (results_tc rfl _ _ gb268 28 #[.int .i64 6,.int .i64 65536] (0,0) _ rfl (by (with_reducible repeat (first | refine blk_drewN ?_ _ | refine blk_drew ?_ | refine blk_alloc ?_ _));refine blk_put (cs:=#[.int .i64 6,.int .i64 0]) ?_ 1 _ rfl;(with_reducible repeat (first | refine blk_drewN ?_ _ | refine blk_drew ?_ | refine blk_alloc ?_ _));refine blk_put (cs:=#[.int .i64 0,.int .i64 0]) ?_ 0 _ rfl;(with_reducible repeat (first | refine blk_drewN ?_ _ | refine blk_drew ?_ | refine blk_alloc ?_ _));exact BK268.out) Try.underlying28 rfl (by kernel_rfl)) rfl ?_
  exact ⟨_,zF,by first | exact Kd.R_nil _ _ _ _ _ | exact Kd.N_nil _ _ _ _ _ | exact Kd.V_nil _ _ _ _ _ | exact Kd.Q_nil _ _ _ _ _ | exact Kd.S_nil _ _ _ _ _,zC HB.out GE268.out⟩
 ·rw [if_neg c2] at H
  have c2b0:decide (65536<(a0.size:Int))=false:=decide_eq_false c2
  clear c2
  have H':=aM H
  clear H
  go_enter Try.func60,Try.ntmps60
  go_wp2_with (first | ((with_reducible refine gate_dst (N:=3) rfl ?_);refine box_event ?hg (N:=3) ?hd (cs:=#[.int .i64 0,.int .i64 0]) (t:=28) ?hr ?_;(case hd=>rfl);(case hg=>rfl);(case hr=>first | (go_simp;done) | (go_simp;rfl));intro gb268 hg w5 hbox hb;have n0_:=aM (below_step (zB HB.out) hb);have n1_:=aM (hbox);have n2_:=aM ((by rw [hg];exact (below_size (zB HB.out)):w.heap.size≤gb268));have n3_:=aM ((by rw [hg];exact (below_size (zB HB.out)):w.heap.size≤gb268));clear HB;have HB:=n0_;have BK268:=n1_;have GE268:=n3_;clear n0_ n1_ n2_ n3_;clear hb hbox hg))
  go_loopg [4,5] k (fun kq v4 v5 w'=>∃ (x4_1:List (S101)) (x5_1:Int) (x269000_1:Int) (x269001_1:Int),v5=.int .i64 x5_1∧Aside0 (r02_Split.l0 kq a0 x4_1 x5_1=some (r1,r2,r3))∧Aside0 (kq≤k)∧Aside0 (Kd.R k101 101 w' w.heap.size (fun _=>True) v4 x4_1)∧Aside0 (w'.heap[gb268]?=some (.cells #[.int .i64 x269000_1,.int .i64 x269001_1] 28 (0,0)))∧Aside0 (Below w.heap.size w w'))
  case atStart=>exact ⟨(([]:List (S101))),(0),(0),(0),(by first | rfl | (simp;done) | (simp [*];done)),H',⟨Nat.le_refl _⟩,⟨by first | exact Kd.R_nil _ _ _ _ _ | exact Kd.N_nil _ _ _ _ _ | exact Kd.V_nil _ _ _ _ _ | exact Kd.Q_nil _ _ _ _ _ | exact Kd.S_nil _ _ _ _ _⟩,⟨zK BK268.out⟩,⟨zC HB.out GE268.out⟩⟩
  case round=>
   clear H' c2b0
   obtain ⟨x4_1,x5_1,x269000_1,x269001_1,rfl,HA,HK1,HO_4,BK268,HB⟩:=hrel
   cases gk with
   | zero=>exact absurd HA.out (by simp [r02_Split.l0])
   | succ k1=>
    have H:=HA.out
    clear HA
    simp only [r02_Split.l0] at H
    by_cases c6:x5_1<(a0.size:Int)
    ·rw [if_pos c6] at H
     have c6b0:decide (x5_1<(a0.size:Int))=true:=decide_eq_true c6
     clear c6
     by_cases c7:0≤x5_1
     ·rw [if_pos c7] at H
      have c7b0:decide (0≤x5_1)=true:=decide_eq_true c7
      clear c7
      replace H:=Option.bind_eq_some_iff.mp H
      obtain ⟨t269,A90,H⟩:=H
      have A9:=aM A90
      clear A90
      by_cases c10:t269=true
      ·subst c10
       have H1:(r02_Split.l0 k1 a0 x4_1 (wrap64 (x5_1+1)))=some (r1,r2,r3):=by rw [if_pos rfl] at H;exact H
       clear H
       have H:=H1
       clear H1
       have H':=aM H
       clear H
       have p8:0≤(x5_1:Int):=of_decide_eq_true zS
       have q8:x5_1<(a0.size:Int):=of_decide_eq_true zS
       have hx8:=bt_at a0 x5_1
       replace p8:=eq_true p8
       replace q8:=eq_true q8
       go_wp2_with (first | ((with_reducible refine gate_callee (f:=82) rfl ?_);refine goesL_ (some 20) rfl rfl Try.func82 (by kernel_rfl) rfl #[.int .u8 (bt a0 x5_1),.string (⟨#[32,9,10,13]⟩:ByteArray)] rfl zA ?_;(with_reducible refine (r02_in.calls k1 (bt a0 x5_1) (⟨#[32,9,10,13]⟩:ByteArray) true _ A9.out).mono ?_);rintro e w' ⟨rfl,⟨nd,rfl⟩⟩;refine ⟨_,rfl,?_⟩))
       go_roundg k1
       case measure=>have:=HK1.out;omega
       case rel=>exact ⟨(x4_1),(wrap64 (x5_1+1)),(x269000_1),(x269001_1),(by first | rfl | (simp;done) | (simp [*];done)),H',⟨by have:=HK1.out;omega⟩,⟨zR HO_4.out⟩,⟨zK BK268.out⟩,⟨zC HB.out GE268.out⟩⟩
      ·replace c10:=Bool.eq_false_iff.mpr c10
       subst c10
       have H1:(if (bt a0 x5_1)=35 then (r02_Split.l1 k1 a0 x4_1 x5_1) else ((r02_in.f k1 (bt a0 x5_1) (⟨#[40,41,123,125,61,58]⟩:ByteArray)).bind fun t270=>(if t270=true then (if x5_1≤(wrap64 (x5_1+1)) then (if (wrap64 (x5_1+1))≤(a0.size:Int) then (if x4_1.length<5864062014805 then (r02_Split.l0 k1 a0 (x4_1++[(⟨a0.extract (x5_1:Int).toNat ((wrap64 (x5_1+1)):Int).toNat,x5_1⟩:S101)]) (wrap64 (x5_1+1))) else (none)) else (none)) else (none)) else ((r02_letter.f k1 (bt a0 x5_1)).bind fun t274=>(if t274=true then (r02_Split.l2 k1 a0 x4_1 x5_1 x5_1) else (some (([]:List (S101)),1,x5_1)))))))=some (r1,r2,r3):=by rw [if_neg (show ¬ (false=true) by decide)] at H;exact H
       clear H
       have H:=H1
       clear H1
       by_cases c11:(bt a0 x5_1)=35
       ·rw [if_pos c11] at H
        have c11b0:((bt a0 x5_1)==35)=true:=beq_iff_eq.mpr c11
        clear c11
        have H':=aM H
        clear H
        have p8:0≤(x5_1:Int):=of_decide_eq_true zS
        have q8:x5_1<(a0.size:Int):=of_decide_eq_true zS
        have hx8:=bt_at a0 x5_1
        replace p8:=eq_true p8
        replace q8:=eq_true q8
        go_wp2_with (first | ((with_reducible refine gate_callee (f:=82) rfl ?_);refine goesL_ (some 20) rfl rfl Try.func82 (by kernel_rfl) rfl #[.int .u8 (bt a0 x5_1),.string (⟨#[32,9,10,13]⟩:ByteArray)] rfl zA ?_;(with_reducible refine (r02_in.calls k1 (bt a0 x5_1) (⟨#[32,9,10,13]⟩:ByteArray) false _ A9.out).mono ?_);rintro e w' ⟨rfl,⟨nd,rfl⟩⟩;refine ⟨_,rfl,?_⟩))
        go_loopg [5] k1 (fun kq v5 w'=>∃ (x5_2:Int),v5=.int .i64 x5_2∧Aside0 (r02_Split.l1 kq a0 x4_1 x5_2=some (r1,r2,r3))∧Aside0 (kq≤k1)∧Aside0 (Kd.R k101 101 w' w.heap.size (fun _=>True) u4 x4_1)∧Aside0 (w'.heap[gb268]?=some (.cells #[.int .i64 x269000_1,.int .i64 x269001_1] 28 (0,0)))∧Aside0 (Below w.heap.size w w'))
        case atStart=>exact ⟨(x5_1),(by first | rfl | (simp;done) | (simp [*];done)),H',⟨Nat.le_refl _⟩,⟨zR HO_4.out⟩,⟨zK BK268.out⟩,⟨zC HB.out GE268.out⟩⟩
        case round=>
         clear H' c6b0 c7b0 p8 q8 hx8 c11b0
         obtain ⟨x5_2,rfl,HA,HK2,HO_4,BK268,HB⟩:=hrel
         cases gk with
         | zero=>exact absurd HA.out (by simp [r02_Split.l1])
         | succ k2=>
          have H:=HA.out
          clear HA
          simp only [r02_Split.l1] at H
          by_cases c12:x5_2<(a0.size:Int)
          ·rw [if_pos c12] at H
           have c12b0:decide (x5_2<(a0.size:Int))=true:=decide_eq_true c12
           clear c12
           by_cases c13:0≤x5_2
           ·rw [if_pos c13] at H
            have c13b0:decide (0≤x5_2)=true:=decide_eq_true c13
            clear c13
            by_cases c15:(bt a0 x5_2)=10
            ·rw [if_pos c15] at H
             have c15b1:((bt a0 x5_2) !=10)=false:=bne_eq_false_iff_eq.mpr c15
             clear c15
             have H':=aM H
             clear H
             have p14:0≤(x5_2:Int):=of_decide_eq_true zS
             have q14:x5_2<(a0.size:Int):=of_decide_eq_true zS
             have hx14:=bt_at a0 x5_2
             replace p14:=eq_true p14
             replace q14:=eq_true q14
             go_wp2
             go_roundg k2
             case measure=>have:=HK1.out;have:=HK2.out;omega
             case rel=>exact ⟨(x4_1),(x5_2),(x269000_1),(x269001_1),(by first | rfl | (simp;done) | (simp [*];done)),H',⟨by have:=HK1.out;have:=HK2.out;omega⟩,⟨zR HO_4.out⟩,⟨zK BK268.out⟩,⟨zC HB.out GE268.out⟩⟩
            ·rw [if_neg c15] at H
             have c15b1:((bt a0 x5_2) !=10)=true:=bne_iff_ne.mpr c15
             have H':=aM H
             clear H
             have p14:0≤(x5_2:Int):=of_decide_eq_true zS
             have q14:x5_2<(a0.size:Int):=of_decide_eq_true zS
             have hx14:=bt_at a0 x5_2
             replace p14:=eq_true p14
             replace q14:=eq_true q14
             go_wp2
             go_roundg k2
             case measure=>have:=HK1.out;have:=HK2.out;omega
             case rel=>exact ⟨(wrap64 (x5_2+1)),(by first | rfl | (simp;done) | (simp [*];done)),H',⟨by have:=HK1.out;have:=HK2.out;omega⟩,⟨zR HO_4.out⟩,⟨zK BK268.out⟩,⟨zC HB.out GE268.out⟩⟩
           ·rw [if_neg c13] at H
            exact absurd H (by simp)
          ·rw [if_neg c12] at H
           have c12b0:decide (x5_2<(a0.size:Int))=false:=decide_eq_false c12
           clear c12
           have H':=aM H
           clear H
           go_wp2
           go_roundg k2
           case measure=>have:=HK1.out;have:=HK2.out;omega
           case rel=>exact ⟨(x4_1),(x5_2),(x269000_1),(x269001_1),(by first | rfl | (simp;done) | (simp [*];done)),H',⟨by have:=HK1.out;have:=HK2.out;omega⟩,⟨zR HO_4.out⟩,⟨zK BK268.out⟩,⟨zC HB.out GE268.out⟩⟩
       ·rw [if_neg c11] at H
        have c11b0:((bt a0 x5_1)==35)=false:=beq_eq_false_iff_ne.mpr c11
        replace H:=Option.bind_eq_some_iff.mp H
        obtain ⟨t270,A160,H⟩:=H
        have A16:=aM A160
        clear A160
        by_cases c17:t270=true
        ·subst c17
         have H1:(if x5_1≤(wrap64 (x5_1+1)) then (if (wrap64 (x5_1+1))≤(a0.size:Int) then (if x4_1.length<5864062014805 then (r02_Split.l0 k1 a0 (x4_1++[(⟨a0.extract (x5_1:Int).toNat ((wrap64 (x5_1+1)):Int).toNat,x5_1⟩:S101)]) (wrap64 (x5_1+1))) else (none)) else (none)) else (none))=some (r1,r2,r3):=by rw [if_pos rfl] at H;exact H
         clear H
         have H:=H1
         clear H1
         have c18b0:=eq_true (of_decide_eq_true zS:0≤x5_1)
         by_cases c19:x5_1≤(wrap64 (x5_1+1))
         ·rw [if_pos c19] at H
          by_cases c20:(wrap64 (x5_1+1))≤(a0.size:Int)
          ·rw [if_pos c20] at H
           by_cases c21:x4_1.length<5864062014805
           ·rw [if_pos c21] at H
            have LMc21:=aM c21
            clear c21
            obtain ⟨y271,hy271⟩:∃ y_:List (S101),y_=(x4_1++[(⟨a0.extract (x5_1:Int).toNat ((wrap64 (x5_1+1)):Int).toNat,x5_1⟩:S101)]):=⟨_,rfl⟩
            replace H:(r02_Split.l0 k1 a0 y271 (wrap64 (x5_1+1)))=some (r1,r2,r3):=by first | (rw [hy271];with_reducible exact H) | (have H2_:=(Option.bind_some _ _).symm.trans H;rw [hy271];with_reducible exact H2_) | (have H2_:=(Option.bind_some _ _).symm.trans H;with_reducible exact H2_) | with_reducible exact H | (rw [hy271];exact H) | exact H
            have Ny271:=aM hy271
            clear hy271
            have H':=aM H
            clear H
            have p8:0≤(x5_1:Int):=of_decide_eq_true zS
            have q8:x5_1<(a0.size:Int):=of_decide_eq_true zS
            have hx8:=bt_at a0 x5_1
            replace p8:=eq_true p8
            replace q8:=eq_true q8
            go_wp2_with (first | ((with_reducible refine gate_callee (f:=82) rfl ?_);refine goesL_ (some 20) rfl rfl Try.func82 (by kernel_rfl) rfl #[.int .u8 (bt a0 x5_1),.string (⟨#[32,9,10,13]⟩:ByteArray)] rfl zA ?_;(with_reducible refine (r02_in.calls k1 (bt a0 x5_1) (⟨#[32,9,10,13]⟩:ByteArray) false _ A9.out).mono ?_);rintro e w' ⟨rfl,⟨nd,rfl⟩⟩;refine ⟨_,rfl,?_⟩) | ((with_reducible refine gate_callee (f:=82) rfl ?_);refine goesL_ (some 38) rfl rfl Try.func82 (by kernel_rfl) rfl #[.int .u8 (bt a0 x5_1),.string (⟨#[40,41,123,125,61,58]⟩:ByteArray)] rfl zA ?_;(with_reducible refine (r02_in.calls k1 (bt a0 x5_1) (⟨#[40,41,123,125,61,58]⟩:ByteArray) true _ A16.out).mono ?_);rintro e w' ⟨rfl,⟨nd,rfl⟩⟩;refine ⟨_,rfl,?_⟩) | ((with_reducible refine gate_builtin (b:=.append) (xs:=#[.tmp 39,.tmp 47]) rfl ?_);at_builtin;refine Kd.R_append k101 (w0:=w) w.heap.size rfl (.tmp 39) (.tmp 47) 77 101 (.agg #[(.string ⟨#[]⟩),(.int .i64 0)]) 24 rfl Try.underlying77 info101 rfl (by decide) (by omega) u4 x4_1 (⟨a0.extract (x5_1:Int).toNat ((wrap64 (x5_1+1)):Int).toNat,x5_1⟩:S101) [.string (a0.extract (x5_1:Int).toNat ((wrap64 (x5_1+1)):Int).toNat),.int .i64 x5_1] (fun _=>True) (fun _=>False) rfl rfl ?aP (fun _ hk=>hk.elim) ?aF ?aO ?aB ?aS ?aL ?_;(case aP=>exact k101_mkM _ _ _ (⟨a0.extract (x5_1:Int).toNat ((wrap64 (x5_1+1)):Int).toNat,x5_1⟩:S101));(case aB=>exact (zC HB.out GE268.out));(case aF=>exact (fun _ _=>trivial));(case aO=>exact (zR HO_4.out));(case aS=>exact (below_size (zC HB.out GE268.out)));(case aL=>have:=LMc21.out;omega);intro v272 w22 ho hb hg hat;rw [← Ny271.out] at ho;have n0_:=aM (blk_grown (g:=gb268) (o:=.cells #[.int .i64 x269000_1,.int .i64 x269001_1] 28 (0,0)) (zK BK268.out) hg (Kd.R_ne HO_4.out BK268.out (by decide)));have n1_:=aM (hb);have n2_:=aM (ho);clear BK268;clear HB;clear HO_4;have BK268:=n0_;have HB:=n1_;have HO273:=n2_;clear n0_ n1_ n2_;clear ho hb hg hat))
            go_roundg k1
            case measure=>have:=HK1.out;omega
            case rel=>exact ⟨(y271),(wrap64 (x5_1+1)),(x269000_1),(x269001_1),(by first | rfl | (simp;done) | (simp [*];done)),H',⟨by have:=HK1.out;omega⟩,⟨zR HO273.out⟩,⟨zK BK268.out⟩,⟨zC HB.out GE268.out⟩⟩
           ·rw [if_neg c21] at H
            exact absurd H (by simp)
          ·rw [if_neg c20] at H
           exact absurd H (by simp)
         ·rw [if_neg c19] at H
          exact absurd H (by simp)
        ·replace c17:=Bool.eq_false_iff.mpr c17
         subst c17
         have H1:((r02_letter.f k1 (bt a0 x5_1)).bind fun t274=>(if t274=true then (r02_Split.l2 k1 a0 x4_1 x5_1 x5_1) else (some (([]:List (S101)),1,x5_1))))=some (r1,r2,r3):=by rw [if_neg (show ¬ (false=true) by decide)] at H;exact H
         clear H
         have H:=H1
         clear H1
         replace H:=Option.bind_eq_some_iff.mp H
         obtain ⟨t274,A230,H⟩:=H
         have A23:=aM A230
         clear A230
         by_cases c24:t274=true
         ·subst c24
          have H1:(r02_Split.l2 k1 a0 x4_1 x5_1 x5_1)=some (r1,r2,r3):=by rw [if_pos rfl] at H;exact H
          clear H
          have H:=H1
          clear H1
          have H':=aM H
          clear H
          have p8:0≤(x5_1:Int):=of_decide_eq_true zS
          have q8:x5_1<(a0.size:Int):=of_decide_eq_true zS
          have hx8:=bt_at a0 x5_1
          replace p8:=eq_true p8
          replace q8:=eq_true q8
          go_wp2_with (first | ((with_reducible refine gate_callee (f:=82) rfl ?_);refine goesL_ (some 20) rfl rfl Try.func82 (by kernel_rfl) rfl #[.int .u8 (bt a0 x5_1),.string (⟨#[32,9,10,13]⟩:ByteArray)] rfl zA ?_;(with_reducible refine (r02_in.calls k1 (bt a0 x5_1) (⟨#[32,9,10,13]⟩:ByteArray) false _ A9.out).mono ?_);rintro e w' ⟨rfl,⟨nd,rfl⟩⟩;refine ⟨_,rfl,?_⟩) | ((with_reducible refine gate_callee (f:=82) rfl ?_);refine goesL_ (some 38) rfl rfl Try.func82 (by kernel_rfl) rfl #[.int .u8 (bt a0 x5_1),.string (⟨#[40,41,123,125,61,58]⟩:ByteArray)] rfl zA ?_;(with_reducible refine (r02_in.calls k1 (bt a0 x5_1) (⟨#[40,41,123,125,61,58]⟩:ByteArray) false _ A16.out).mono ?_);rintro e w' ⟨rfl,⟨nd,rfl⟩⟩;refine ⟨_,rfl,?_⟩) | ((with_reducible refine gate_callee (f:=83) rfl ?_);refine goesL_ (some 52) rfl rfl Try.func83 (by kernel_rfl) rfl #[.int .u8 (bt a0 x5_1)] rfl zA ?_;(with_reducible refine (r02_letter.calls k1 (bt a0 x5_1) true _ A23.out).mono ?_);rintro e w' ⟨rfl,⟨nd,rfl⟩⟩;refine ⟨_,rfl,?_⟩))
          go_loopg [7] k1 (fun kq v7 w'=>∃ (x7_2:Int),v7=.int .i64 x7_2∧Aside0 (r02_Split.l2 kq a0 x4_1 x5_1 x7_2=some (r1,r2,r3))∧Aside0 (kq≤k1)∧Aside0 (Kd.R k101 101 w' w.heap.size (fun _=>True) u4 x4_1)∧Aside0 (w'.heap[gb268]?=some (.cells #[.int .i64 x269000_1,.int .i64 x269001_1] 28 (0,0)))∧Aside0 (Below w.heap.size w w'))
          case atStart=>exact ⟨(x5_1),(by first | rfl | (simp;done) | (simp [*];done)),H',⟨Nat.le_refl _⟩,⟨zR HO_4.out⟩,⟨zK BK268.out⟩,⟨zC HB.out GE268.out⟩⟩
          case round=>
           clear H' c6b0 c7b0 p8 q8 hx8 c11 c11b0
           obtain ⟨x7_2,rfl,HA,HK2,HO_4,BK268,HB⟩:=hrel
           cases gk with
           | zero=>exact absurd HA.out (by simp [r02_Split.l2])
           | succ k2=>
            have H:=HA.out
            clear HA
            simp only [r02_Split.l2] at H
            by_cases c25:x7_2<(a0.size:Int)
            ·rw [if_pos c25] at H
             have c25b0:decide (x7_2<(a0.size:Int))=true:=decide_eq_true c25
             clear c25
             by_cases c26:0≤x7_2
             ·rw [if_pos c26] at H
              have c26b0:decide (0≤x7_2)=true:=decide_eq_true c26
              clear c26
              replace H:=Option.bind_eq_some_iff.mp H
              obtain ⟨t275,A280,H⟩:=H
              have A28:=aM A280
              clear A280
              by_cases c29:t275=true
              ·subst c29
               have H1:(r02_Split.l2 k2 a0 x4_1 x5_1 (wrap64 (x7_2+1)))=some (r1,r2,r3):=by rw [if_pos rfl] at H;exact H
               clear H
               have H:=H1
               clear H1
               have H':=aM H
               clear H
               have p27:0≤(x7_2:Int):=of_decide_eq_true zS
               have q27:x7_2<(a0.size:Int):=of_decide_eq_true zS
               have hx27:=bt_at a0 x7_2
               replace p27:=eq_true p27
               replace q27:=eq_true q27
               go_wp2_with (first | (go_at_call 83;(with_reducible refine (r02_letter.calls k2 (bt a0 x7_2) true _ A28.out).mono ?_);rintro e w' ⟨rfl,⟨nd,rfl⟩⟩))
               go_roundg k2
               case measure=>have:=HK1.out;have:=HK2.out;omega
               case rel=>exact ⟨(wrap64 (x7_2+1)),(by first | rfl | (simp;done) | (simp [*];done)),H',⟨by have:=HK1.out;have:=HK2.out;omega⟩,⟨zR HO_4.out⟩,⟨zK BK268.out⟩,⟨zC HB.out GE268.out⟩⟩
              ·replace c29:=Bool.eq_false_iff.mpr c29
               subst c29
               have H1:(if 0≤x5_1 then (if x5_1≤x7_2 then (if x7_2≤(a0.size:Int) then (if x4_1.length<5864062014805 then (r02_Split.l0 k2 a0 (x4_1++[(⟨a0.extract (x5_1:Int).toNat (x7_2:Int).toNat,x5_1⟩:S101)]) x7_2) else (none)) else (none)) else (none)) else (none))=some (r1,r2,r3):=by rw [if_neg (show ¬ (false=true) by decide)] at H;exact H
               clear H
               have H:=H1
               clear H1
               by_cases c30:0≤x5_1
               ·rw [if_pos c30] at H
                have c30b0:=eq_true c30
                clear c30
                by_cases c31:x5_1≤x7_2
                ·rw [if_pos c31] at H
                 have c31b0:=eq_true c31
                 clear c31
                 by_cases c32:x7_2≤(a0.size:Int)
                 ·rw [if_pos c32] at H
                  have c32b0:=eq_true c32
                  clear c32
                  by_cases c33:x4_1.length<5864062014805
                  ·rw [if_pos c33] at H
                   have LMc33:=aM c33
                   clear c33
                   obtain ⟨y276,hy276⟩:∃ y_:List (S101),y_=(x4_1++[(⟨a0.extract (x5_1:Int).toNat (x7_2:Int).toNat,x5_1⟩:S101)]):=⟨_,rfl⟩
                   replace H:(r02_Split.l0 k2 a0 y276 x7_2)=some (r1,r2,r3):=by first | (rw [hy276];with_reducible exact H) | (have H2_:=(Option.bind_some _ _).symm.trans H;rw [hy276];with_reducible exact H2_) | (have H2_:=(Option.bind_some _ _).symm.trans H;with_reducible exact H2_) | with_reducible exact H | (rw [hy276];exact H) | exact H
                   have Ny276:=aM hy276
                   clear hy276
                   have H':=aM H
                   clear H
                   have p27:0≤(x7_2:Int):=of_decide_eq_true zS
                   have q27:x7_2<(a0.size:Int):=of_decide_eq_true zS
                   have hx27:=bt_at a0 x7_2
                   replace p27:=eq_true p27
                   replace q27:=eq_true q27
                   go_wp2_with (first | (go_at_call 83;(with_reducible refine (r02_letter.calls k2 (bt a0 x7_2) false _ A28.out).mono ?_);rintro e w' ⟨rfl,⟨nd,rfl⟩⟩) | ((with_reducible refine gate_builtin (b:=.append) (xs:=#[.tmp 66,.tmp 73]) rfl ?_);at_builtin;refine Kd.R_append k101 (w0:=w) w.heap.size rfl (.tmp 66) (.tmp 73) 77 101 (.agg #[(.string ⟨#[]⟩),(.int .i64 0)]) 24 rfl Try.underlying77 info101 rfl (by decide) (by omega) u4 x4_1 (⟨a0.extract (x5_1:Int).toNat (x7_2:Int).toNat,x5_1⟩:S101) [.string (a0.extract (x5_1:Int).toNat (x7_2:Int).toNat),.int .i64 x5_1] (fun _=>True) (fun _=>False) rfl rfl ?aP (fun _ hk=>hk.elim) ?aF ?aO ?aB ?aS ?aL ?_;(case aP=>exact k101_mkM _ _ _ (⟨a0.extract (x5_1:Int).toNat (x7_2:Int).toNat,x5_1⟩:S101));(case aB=>exact (zC HB.out GE268.out));(case aF=>exact (fun _ _=>trivial));(case aO=>exact (zR HO_4.out));(case aS=>exact (below_size (zC HB.out GE268.out)));(case aL=>have:=LMc33.out;omega);intro v277 w34 ho hb hg hat;rw [← Ny276.out] at ho;have n0_:=aM (blk_grown (g:=gb268) (o:=.cells #[.int .i64 x269000_1,.int .i64 x269001_1] 28 (0,0)) (zK BK268.out) hg (Kd.R_ne HO_4.out BK268.out (by decide)));have n1_:=aM (hb);have n2_:=aM (ho);clear BK268;clear HB;clear HO_4;have BK268:=n0_;have HB:=n1_;have HO278:=n2_;clear n0_ n1_ n2_;clear ho hb hg hat))
                   go_roundg k2
                   case measure=>have:=HK1.out;have:=HK2.out;omega
                   case rel=>exact ⟨(y276),(x7_2),(x269000_1),(x269001_1),(by first | rfl | (simp;done) | (simp [*];done)),H',⟨by have:=HK1.out;have:=HK2.out;omega⟩,⟨zR HO278.out⟩,⟨zK BK268.out⟩,⟨zC HB.out GE268.out⟩⟩
                  ·rw [if_neg c33] at H
                   exact absurd H (by simp)
                 ·rw [if_neg c32] at H
                  exact absurd H (by simp)
                ·rw [if_neg c31] at H
                 exact absurd H (by simp)
               ·rw [if_neg c30] at H
                exact absurd H (by simp)
             ·rw [if_neg c26] at H
              exact absurd H (by simp)
            ·rw [if_neg c25] at H
             have c25b0:decide (x7_2<(a0.size:Int))=false:=decide_eq_false c25
             clear c25
             by_cases c35:0≤x5_1
             ·rw [if_pos c35] at H
              have c35b0:=eq_true c35
              clear c35
              by_cases c36:x5_1≤x7_2
              ·rw [if_pos c36] at H
               have c36b0:=eq_true c36
               clear c36
               by_cases c37:x7_2≤(a0.size:Int)
               ·rw [if_pos c37] at H
                have c37b0:=eq_true c37
                clear c37
                by_cases c38:x4_1.length<5864062014805
                ·rw [if_pos c38] at H
                 have LMc38:=aM c38
                 clear c38
                 obtain ⟨y279,hy279⟩:∃ y_:List (S101),y_=(x4_1++[(⟨a0.extract (x5_1:Int).toNat (x7_2:Int).toNat,x5_1⟩:S101)]):=⟨_,rfl⟩
                 replace H:(r02_Split.l0 k2 a0 y279 x7_2)=some (r1,r2,r3):=by first | (rw [hy279];with_reducible exact H) | (have H2_:=(Option.bind_some _ _).symm.trans H;rw [hy279];with_reducible exact H2_) | (have H2_:=(Option.bind_some _ _).symm.trans H;with_reducible exact H2_) | with_reducible exact H | (rw [hy279];exact H) | exact H
                 have Ny279:=aM hy279
                 clear hy279
                 have H':=aM H
                 clear H
                 go_wp2_with (first | ((with_reducible refine gate_builtin (b:=.append) (xs:=#[.tmp 66,.tmp 73]) rfl ?_);at_builtin;refine Kd.R_append k101 (w0:=w) w.heap.size rfl (.tmp 66) (.tmp 73) 77 101 (.agg #[(.string ⟨#[]⟩),(.int .i64 0)]) 24 rfl Try.underlying77 info101 rfl (by decide) (by omega) u4 x4_1 (⟨a0.extract (x5_1:Int).toNat (x7_2:Int).toNat,x5_1⟩:S101) [.string (a0.extract (x5_1:Int).toNat (x7_2:Int).toNat),.int .i64 x5_1] (fun _=>True) (fun _=>False) rfl rfl ?aP (fun _ hk=>hk.elim) ?aF ?aO ?aB ?aS ?aL ?_;(case aP=>exact k101_mkM _ _ _ (⟨a0.extract (x5_1:Int).toNat (x7_2:Int).toNat,x5_1⟩:S101));(case aB=>exact (zC HB.out GE268.out));(case aF=>exact (fun _ _=>trivial));(case aO=>exact (zR HO_4.out));(case aS=>exact (below_size (zC HB.out GE268.out)));(case aL=>have:=LMc38.out;omega);intro v280 w39 ho hb hg hat;rw [← Ny279.out] at ho;have n0_:=aM (blk_grown (g:=gb268) (o:=.cells #[.int .i64 x269000_1,.int .i64 x269001_1] 28 (0,0)) (zK BK268.out) hg (Kd.R_ne HO_4.out BK268.out (by decide)));have n1_:=aM (hb);have n2_:=aM (ho);clear BK268;clear HB;clear HO_4;have BK268:=n0_;have HB:=n1_;have HO281:=n2_;clear n0_ n1_ n2_;clear ho hb hg hat))
                 go_roundg k2
                 case measure=>have:=HK1.out;have:=HK2.out;omega
                 case rel=>exact ⟨(y279),(x7_2),(x269000_1),(x269001_1),(by first | rfl | (simp;done) | (simp [*];done)),H',⟨by have:=HK1.out;have:=HK2.out;omega⟩,⟨zR HO281.out⟩,⟨zK BK268.out⟩,⟨zC HB.out GE268.out⟩⟩
                ·rw [if_neg c38] at H
                 exact absurd H (by simp)
               ·rw [if_neg c37] at H
                exact absurd H (by simp)
              ·rw [if_neg c36] at H
               exact absurd H (by simp)
             ·rw [if_neg c35] at H
              exact absurd H (by simp)
         ·replace c24:=Bool.eq_false_iff.mpr c24
          subst c24
          have H1:(some (([]:List (S101)),1,x5_1))=some (r1,r2,r3):=by rw [if_neg (show ¬ (false=true) by decide)] at H;exact H
          clear H
          have H:=H1
          clear H1
          simp only [Option.some.injEq,Prod.mk.injEq] at H
          obtain ⟨rfl,rfl,rfl⟩:=H
          have p8:0≤(x5_1:Int):=of_decide_eq_true zS
          have q8:x5_1<(a0.size:Int):=of_decide_eq_true zS
          have hx8:=bt_at a0 x5_1
          replace p8:=eq_true p8
          replace q8:=eq_true q8
          go_wp2_with (first | ((with_reducible refine gate_callee (f:=82) rfl ?_);refine goesL_ (some 20) rfl rfl Try.func82 (by kernel_rfl) rfl #[.int .u8 (bt a0 x5_1),.string (⟨#[32,9,10,13]⟩:ByteArray)] rfl zA ?_;(with_reducible refine (r02_in.calls k1 (bt a0 x5_1) (⟨#[32,9,10,13]⟩:ByteArray) false _ A9.out).mono ?_);rintro e w' ⟨rfl,⟨nd,rfl⟩⟩;refine ⟨_,rfl,?_⟩;(try (rw [drewN_self wr];generalize hq_:World.drewN wr _=wr;have n0_:Aside0 (Kd.R k101 101 wr w.heap.size (fun _=>True) u4 x4_1):=⟨by rw [← hq_];exact (zR HO_4.out)⟩;have n1_:Aside0 (wr.heap[gb268]?=some (.cells #[.int .i64 x269000_1,.int .i64 x269001_1] 28 (0,0))):=⟨by rw [← hq_];exact (zK BK268.out)⟩;have n2_:Aside0 (Below w.heap.size w wr):=⟨by rw [← hq_];exact (zC HB.out GE268.out)⟩;clear HO_4 BK268 HB hq_;have HO_4:=n0_;have BK268:=n1_;have HB:=n2_;clear n0_ n1_ n2_))) | ((with_reducible refine gate_callee (f:=82) rfl ?_);refine goesL_ (some 38) rfl rfl Try.func82 (by kernel_rfl) rfl #[.int .u8 (bt a0 x5_1),.string (⟨#[40,41,123,125,61,58]⟩:ByteArray)] rfl zA ?_;(with_reducible refine (r02_in.calls k1 (bt a0 x5_1) (⟨#[40,41,123,125,61,58]⟩:ByteArray) false _ A16.out).mono ?_);rintro e w' ⟨rfl,⟨nd,rfl⟩⟩;refine ⟨_,rfl,?_⟩;(try (rw [drewN_self wr];generalize hq_:World.drewN wr _=wr;have n0_:Aside0 (Kd.R k101 101 wr w.heap.size (fun _=>True) u4 x4_1):=⟨by rw [← hq_];exact (zR HO_4.out)⟩;have n1_:Aside0 (wr.heap[gb268]?=some (.cells #[.int .i64 x269000_1,.int .i64 x269001_1] 28 (0,0))):=⟨by rw [← hq_];exact (zK BK268.out)⟩;have n2_:Aside0 (Below w.heap.size w wr):=⟨by rw [← hq_];exact (zC HB.out GE268.out)⟩;clear HO_4 BK268 HB hq_;have HO_4:=n0_;have BK268:=n1_;have HB:=n2_;clear n0_ n1_ n2_))) | ((with_reducible refine gate_callee (f:=83) rfl ?_);refine goesL_ (some 52) rfl rfl Try.func83 (by kernel_rfl) rfl #[.int .u8 (bt a0 x5_1)] rfl zA ?_;(with_reducible refine (r02_letter.calls k1 (bt a0 x5_1) false _ A23.out).mono ?_);rintro e w' ⟨rfl,⟨nd,rfl⟩⟩;refine ⟨_,rfl,?_⟩;(try (rw [drewN_self wr];generalize hq_:World.drewN wr _=wr;have n0_:Aside0 (Kd.R k101 101 wr w.heap.size (fun _=>True) u4 x4_1):=⟨by rw [← hq_];exact (zR HO_4.out)⟩;have n1_:Aside0 (wr.heap[gb268]?=some (.cells #[.int .i64 x269000_1,.int .i64 x269001_1] 28 (0,0))):=⟨by rw [← hq_];exact (zK BK268.out)⟩;have n2_:Aside0 (Below w.heap.size w wr):=⟨by rw [← hq_];exact (zC HB.out GE268.out)⟩;clear HO_4 BK268 HB hq_;have HO_4:=n0_;have BK268:=n1_;have HB:=n2_;clear n0_ n1_ n2_));have hcz40_0:wr.cell? ⟨gb268,0,none⟩=some (.int .i64 x269000_1):=(blk_cell BK268.out 0).trans rfl;have hcz40_1:wr.cell? ⟨gb268,1,none⟩=some (.int .i64 x269001_1):=(blk_cell BK268.out 1).trans rfl;have hfz40_0:=blk_frozen BK268.out 0;have hfz40_1:=blk_frozen BK268.out 1))
          refine bodyPost_ret (results_tc rfl _ _ gb268 28 #[.int .i64 1,.int .i64 x5_1] (0,0) _ rfl (by (with_reducible repeat (first | refine blk_drewN ?_ _ | refine blk_drew ?_ | refine blk_alloc ?_ _));refine blk_put (cs:=#[.int .i64 1,.int .i64 x269001_1]) ?_ 1 _ rfl;(with_reducible repeat (first | refine blk_drewN ?_ _ | refine blk_drew ?_ | refine blk_alloc ?_ _));refine blk_put (cs:=#[.int .i64 x269000_1,.int .i64 x269001_1]) ?_ 0 _ rfl;(with_reducible repeat (first | refine blk_drewN ?_ _ | refine blk_drew ?_ | refine blk_alloc ?_ _));exact BK268.out) Try.underlying28 rfl (by kernel_rfl)) rfl ?_
          exact ⟨_,zF,by first | exact Kd.R_nil _ _ _ _ _ | exact Kd.N_nil _ _ _ _ _ | exact Kd.V_nil _ _ _ _ _ | exact Kd.Q_nil _ _ _ _ _ | exact Kd.S_nil _ _ _ _ _,zC HB.out GE268.out⟩
     ·rw [if_neg c7] at H
      exact absurd H (by simp)
    ·rw [if_neg c6] at H
     have c6b0:decide (x5_1<(a0.size:Int))=false:=decide_eq_false c6
     clear c6
     simp only [Option.some.injEq,Prod.mk.injEq] at H
     obtain ⟨rfl,rfl,rfl⟩:=H
     have hcz41_0:wr.cell? ⟨gb268,0,none⟩=some (.int .i64 x269000_1):=(blk_cell BK268.out 0).trans rfl
     have hcz41_1:wr.cell? ⟨gb268,1,none⟩=some (.int .i64 x269001_1):=(blk_cell BK268.out 1).trans rfl
     have hfz41_0:=blk_frozen BK268.out 0
     have hfz41_1:=blk_frozen BK268.out 1
     go_wp2
     refine bodyPost_ret (results_tc rfl _ _ gb268 28 #[.int .i64 0,.int .i64 0] (0,0) _ rfl (by (with_reducible repeat (first | refine blk_drewN ?_ _ | refine blk_drew ?_ | refine blk_alloc ?_ _));refine blk_put (cs:=#[.int .i64 0,.int .i64 x269001_1]) ?_ 1 _ rfl;(with_reducible repeat (first | refine blk_drewN ?_ _ | refine blk_drew ?_ | refine blk_alloc ?_ _));refine blk_put (cs:=#[.int .i64 x269000_1,.int .i64 x269001_1]) ?_ 0 _ rfl;(with_reducible repeat (first | refine blk_drewN ?_ _ | refine blk_drew ?_ | refine blk_alloc ?_ _));exact BK268.out) Try.underlying28 rfl (by kernel_rfl)) rfl ?_
     exact ⟨_,zF,by (with_reducible repeat (first | apply Kd.R_alloc | apply Kd.R_drewN | apply Kd.R_drew));exact Kd.R_mono (Kd.R_far (p:=⟨gb268,1,none⟩) (Kd.R_far (p:=⟨gb268,0,none⟩) (Kd.R_types HO_4.out BK268.out (by decide)) (fun _ hk=>hk.2) (.int .i64 0)) (fun _ hk=>hk.2) (.int .i64 0)) (fun _ hk=>trivial),zC HB.out GE268.out⟩
def IsS89 (w0 W:World) (g:Nat) (f0:List (S101)) (f1:Int) (f2:Int) (f3:Int) (f4:Int) (f5:Int):Prop:=∃ A0 c0,W.heap[g]?=some (.cells #[.slice A0 f0.length c0,.int .i64 f1,.int .i64 f2,.int .i64 f3,.int .i64 f4,.int .i64 f5] 89 (0,0))∧w0.heap.size≤g∧Kd.C k101 w0 A0 f0.length f0
theorem IsS89.grown {w0 W:World} {g:Nat} {f0:List (S101)} {f1:Int} {f2:Int} {f3:Int} {f4:Int} {f5:Int} {W1:World} {row:Option Nat} (h:IsS89 w0 W g f0 f1 f2 f3 f4 f5) (hw:W.grownBy W1 row) (hne:some g≠row):IsS89 w0 W1 g f0 f1 f2 f3 f4 f5:=by
 obtain ⟨A0,c0,hb,hg,hr0⟩:=h
 exact ⟨A0,c0,blk_grown hb hw hne,hg,hr0⟩
theorem IsS89.kept {w0 W:World} {g:Nat} {f0:List (S101)} {f1:Int} {f2:Int} {f3:Int} {f4:Int} {f5:Int} {W1:World} {S:Nat→Prop} (h:IsS89 w0 W g f0 f1 f2 f3 f4 f5) (hk:Kept W W1 S) (hne:¬ S g):IsS89 w0 W1 g f0 f1 f2 f3 f4 f5:=by
 obtain ⟨A0,c0,hb,hg,hr0⟩:=h
 exact ⟨A0,c0,blk_kept hb hk hne,hg,hr0⟩
theorem IsS89.below {w0 W:World} {g:Nat} {f0:List (S101)} {f1:Int} {f2:Int} {f3:Int} {f4:Int} {f5:Int} {W1:World} (h:IsS89 w0 W g f0 f1 f2 f3 f4 f5) (hw:Below W.heap.size W W1):IsS89 w0 W1 g f0 f1 f2 f3 f4 f5:=h.grown (grown_of_below hw none) (by simp)
theorem IsS89.alloc {w0 W:World} {g:Nat} {f0:List (S101)} {f1:Int} {f2:Int} {f3:Int} {f4:Int} {f5:Int} (h:IsS89 w0 W g f0 f1 f2 f3 f4 f5) (o:Obj):IsS89 w0 (W.alloc o) g f0 f1 f2 f3 f4 f5:=h.below (below_alloc (Below.refl _ _) o)
theorem IsS89.drewN {w0 W:World} {g:Nat} {f0:List (S101)} {f1:Int} {f2:Int} {f3:Int} {f4:Int} {f5:Int} (h:IsS89 w0 W g f0 f1 f2 f3 f4 f5) (m:Nat):IsS89 w0 (W.drewN m) g f0 f1 f2 f3 f4 f5:=h
theorem IsS89.drew {w0 W:World} {g:Nat} {f0:List (S101)} {f1:Int} {f2:Int} {f3:Int} {f4:Int} {f5:Int} (h:IsS89 w0 W g f0 f1 f2 f3 f4 f5):IsS89 w0 W.drew g f0 f1 f2 f3 f4 f5:=h
theorem IsS89.at_ {w0 W:World} {g:Nat} {f0:List (S101)} {f1:Int} {f2:Int} {f3:Int} {f4:Int} {f5:Int} {w':World} {m:Nat} (hq:W.drewN m=w') (h:IsS89 w0 W g f0 f1 f2 f3 f4 f5):IsS89 w0 w' g f0 f1 f2 f3 f4 f5:=by subst hq;exact IsS89.drewN h m
theorem IsS89.apart {w0 W:World} {g:Nat} {f0:List (S101)} {f1:Int} {f2:Int} {f3:Int} {f4:Int} {f5:Int} {α:Type} {d:Kd α} {e:Nat} {base:Nat} {ok:Nat→Prop} {v:Value} {xs:List α} (h:IsS89 w0 W g f0 f1 f2 f3 f4 f5) (ho:d.R e W base ok v xs) (ht:∀ q,q∈e::d.E→q≠89):d.R e W base (fun k=>ok k∧k≠g) v xs:=by
 obtain ⟨A0,c0,hb,hg,hr0⟩:=h
 exact Kd.R_types ho hb ht
theorem IsS89.own_ne {w0 W:World} {g:Nat} {f0:List (S101)} {f1:Int} {f2:Int} {f3:Int} {f4:Int} {f5:Int} {α:Type} {d:Kd α} {e:Nat} {base:Nat} {ok:Nat→Prop} {v:Value} {xs:List α} (h:IsS89 w0 W g f0 f1 f2 f3 f4 f5) (ho:d.R e W base ok v xs) (ht:e≠89):some g≠v.ownBlock:=by
 obtain ⟨A0,c0,hb,hg,hr0⟩:=h
 exact Kd.R_ne ho hb ht
theorem IsS89.lt {w0 W:World} {g:Nat} {f0:List (S101)} {f1:Int} {f2:Int} {f3:Int} {f4:Int} {f5:Int} (h:IsS89 w0 W g f0 f1 f2 f3 f4 f5):g<W.heap.size:=by
 obtain ⟨A0,c0,hb,hg,hr0⟩:=h
 exact blk_lt hb
theorem IsS89.ge {w0 W:World} {g:Nat} {f0:List (S101)} {f1:Int} {f2:Int} {f3:Int} {f4:Int} {f5:Int} (h:IsS89 w0 W g f0 f1 f2 f3 f4 f5):w0.heap.size≤g:=by
 obtain ⟨A0,c0,hb,hg,hr0⟩:=h
 exact hg
theorem IsS89.far {w0 W:World} {g:Nat} {f0:List (S101)} {f1:Int} {f2:Int} {f3:Int} {f4:Int} {f5:Int} {p:Addr} (h:IsS89 w0 W g f0 f1 f2 f3 f4 f5) (hne:g≠p.block) (u:Value):IsS89 w0 (W.setCell p u) g f0 f1 f2 f3 f4 f5:=by
 obtain ⟨A0,c0,hb,hg,hr0⟩:=h
 exact ⟨A0,c0,blk_far hb hne u,hg,hr0⟩
theorem cellS89_0 {W:World} {g:Nat} {A0:Option Addr} {c0:Nat} {f0:List (S101)} {f1:Int} {f2:Int} {f3:Int} {f4:Int} {f5:Int} (h:W.heap[g]?=some (.cells #[.slice A0 f0.length c0,.int .i64 f1,.int .i64 f2,.int .i64 f3,.int .i64 f4,.int .i64 f5] 89 (0,0))):W.cell? ⟨g,0,none⟩=some (.slice A0 f0.length c0):=(blk_cell h 0).trans rfl
theorem cellS89_1 {W:World} {g:Nat} {A0:Option Addr} {c0:Nat} {f0:List (S101)} {f1:Int} {f2:Int} {f3:Int} {f4:Int} {f5:Int} (h:W.heap[g]?=some (.cells #[.slice A0 f0.length c0,.int .i64 f1,.int .i64 f2,.int .i64 f3,.int .i64 f4,.int .i64 f5] 89 (0,0))):W.cell? ⟨g,1,none⟩=some (.int .i64 f1):=(blk_cell h 1).trans rfl
theorem IsS89.set_1 {w0 W:World} {g:Nat} {f0:List (S101)} {f1:Int} {f2:Int} {f3:Int} {f4:Int} {f5:Int} (h:IsS89 w0 W g f0 f1 f2 f3 f4 f5) (x:Int):IsS89 w0 (W.setCell ⟨g,1,none⟩ (.int .i64 x)) g f0 x f2 f3 f4 f5:=by
 obtain ⟨A0,c0,hb,hg,hr0⟩:=h
 exact ⟨A0,c0,by simpa using blk_set hb 1 (.int .i64 x),hg,hr0⟩
theorem cellS89_2 {W:World} {g:Nat} {A0:Option Addr} {c0:Nat} {f0:List (S101)} {f1:Int} {f2:Int} {f3:Int} {f4:Int} {f5:Int} (h:W.heap[g]?=some (.cells #[.slice A0 f0.length c0,.int .i64 f1,.int .i64 f2,.int .i64 f3,.int .i64 f4,.int .i64 f5] 89 (0,0))):W.cell? ⟨g,2,none⟩=some (.int .i64 f2):=(blk_cell h 2).trans rfl
theorem IsS89.set_2 {w0 W:World} {g:Nat} {f0:List (S101)} {f1:Int} {f2:Int} {f3:Int} {f4:Int} {f5:Int} (h:IsS89 w0 W g f0 f1 f2 f3 f4 f5) (x:Int):IsS89 w0 (W.setCell ⟨g,2,none⟩ (.int .i64 x)) g f0 f1 x f3 f4 f5:=by
 obtain ⟨A0,c0,hb,hg,hr0⟩:=h
 exact ⟨A0,c0,by simpa using blk_set hb 2 (.int .i64 x),hg,hr0⟩
theorem IsS89.set_3 {w0 W:World} {g:Nat} {f0:List (S101)} {f1:Int} {f2:Int} {f3:Int} {f4:Int} {f5:Int} (h:IsS89 w0 W g f0 f1 f2 f3 f4 f5) (x:Int):IsS89 w0 (W.setCell ⟨g,3,none⟩ (.int .i64 x)) g f0 f1 f2 x f4 f5:=by
 obtain ⟨A0,c0,hb,hg,hr0⟩:=h
 exact ⟨A0,c0,by simpa using blk_set hb 3 (.int .i64 x),hg,hr0⟩
theorem cellS89_4 {W:World} {g:Nat} {A0:Option Addr} {c0:Nat} {f0:List (S101)} {f1:Int} {f2:Int} {f3:Int} {f4:Int} {f5:Int} (h:W.heap[g]?=some (.cells #[.slice A0 f0.length c0,.int .i64 f1,.int .i64 f2,.int .i64 f3,.int .i64 f4,.int .i64 f5] 89 (0,0))):W.cell? ⟨g,4,none⟩=some (.int .i64 f4):=(blk_cell h 4).trans rfl
theorem IsS89.set_4 {w0 W:World} {g:Nat} {f0:List (S101)} {f1:Int} {f2:Int} {f3:Int} {f4:Int} {f5:Int} (h:IsS89 w0 W g f0 f1 f2 f3 f4 f5) (x:Int):IsS89 w0 (W.setCell ⟨g,4,none⟩ (.int .i64 x)) g f0 f1 f2 f3 x f5:=by
 obtain ⟨A0,c0,hb,hg,hr0⟩:=h
 exact ⟨A0,c0,by simpa using blk_set hb 4 (.int .i64 x),hg,hr0⟩
theorem cellS89_5 {W:World} {g:Nat} {A0:Option Addr} {c0:Nat} {f0:List (S101)} {f1:Int} {f2:Int} {f3:Int} {f4:Int} {f5:Int} (h:W.heap[g]?=some (.cells #[.slice A0 f0.length c0,.int .i64 f1,.int .i64 f2,.int .i64 f3,.int .i64 f4,.int .i64 f5] 89 (0,0))):W.cell? ⟨g,5,none⟩=some (.int .i64 f5):=(blk_cell h 5).trans rfl
theorem IsS89.set_5 {w0 W:World} {g:Nat} {f0:List (S101)} {f1:Int} {f2:Int} {f3:Int} {f4:Int} {f5:Int} (h:IsS89 w0 W g f0 f1 f2 f3 f4 f5) (x:Int):IsS89 w0 (W.setCell ⟨g,5,none⟩ (.int .i64 x)) g f0 f1 f2 f3 f4 x:=by
 obtain ⟨A0,c0,hb,hg,hr0⟩:=h
 exact ⟨A0,c0,by simpa using blk_set hb 5 (.int .i64 x),hg,hr0⟩
theorem IsS89.new (w0 W:World) (A0:Option Addr) (c0:Nat) (f0:List (S101)) (f1:Int) (f2:Int) (f3:Int) (f4:Int) (f5:Int) (hB:Below w0.heap.size w0 W) (hr0:Kd.C k101 w0 A0 f0.length f0):IsS89 w0 (W.alloc (.cells #[.slice A0 f0.length c0,.int .i64 f1,.int .i64 f2,.int .i64 f3,.int .i64 f4,.int .i64 f5] 89)) W.heap.size f0 f1 f2 f3 f4 f5:=⟨A0,c0,by simpa using heap_alloc_new W _,hB.size,hr0⟩
def r06_Reader_fail.f (s0_0:List (S101)) (s0_1:Int) (s0_2:Int) (s0_3:Int) (s0_4:Int) (s0_5:Int) (a1:Int):Option (Int × Int × Int × Int × Int):=if s0_4=0 then (if s0_1<(s0_0.length:Int) then (if 0≤s0_1 then (some (s0_1,s0_2,s0_3,a1,(rd_T101 s0_0 s0_1).f1)) else (none)) else (some (s0_1,s0_2,s0_3,a1,s0_2))) else (some (s0_1,s0_2,s0_3,s0_4,s0_5))
theorem r06_Reader_fail.calls (g:Nat) (s0_0:List (S101)) (s0_1:Int) (s0_2:Int) (s0_3:Int) (s0_4:Int) (s0_5:Int) (a1:Int) (r1:Int) (r2:Int) (r3:Int) (r4:Int) (r5:Int) (w0 w:World) (hI:IsS89 w0 w g s0_0 s0_1 s0_2 s0_3 s0_4 s0_5) (hB:Below w0.heap.size w0 w) (h:r06_Reader_fail.f s0_0 s0_1 s0_2 s0_3 s0_4 s0_5 a1=some (r1,r2,r3,r4,r5)):
  Calls Try.prog 61 #[.pointer (some ⟨g,0,none⟩),.int .i64 a1] w fun e w'=>e=.returned (.tuple #[])∧IsS89 w0 w' g s0_0 r1 r2 r3 r4 r5∧Below w0.heap.size w0 w'∧KeepBut w w' g none:=by
 have HI0:=aM hI
 have HK:=aM (KeepBut.refl w g none)
 clear hI
 have HB:=aM hB
 clear hB
 have H:(if s0_4=0 then (if s0_1<(s0_0.length:Int) then (if 0≤s0_1 then (some (s0_1,s0_2,s0_3,a1,(rd_T101 s0_0 s0_1).f1)) else (none)) else (some (s0_1,s0_2,s0_3,a1,s0_2))) else (some (s0_1,s0_2,s0_3,s0_4,s0_5)))=some (r1,r2,r3,r4,r5):=h
 clear h
 by_cases c3:s0_4=0
 ·rw [if_pos c3] at H
  have c3b1:(s0_4 !=0)=false:=bne_eq_false_iff_eq.mpr c3
  clear c3
  by_cases c4:s0_1<(s0_0.length:Int)
  ·rw [if_pos c4] at H
   have c4b0:decide (s0_1<(s0_0.length:Int))=true:=decide_eq_true c4
   clear c4
   by_cases c5:0≤s0_1
   ·rw [if_pos c5] at H
    have c5b0:decide (0≤s0_1)=true:=decide_eq_true c5
    clear c5
    simp only [Option.some.injEq,Prod.mk.injEq] at H
    obtain ⟨rfl,rfl,rfl,rfl,rfl⟩:=H
    obtain ⟨ASz6_0,cSz6_0,HGz6,hgz6,HSz6_0⟩:=HI0.out
    have hcz6_0:=cellS89_0 HGz6
    have hcz6_1:=cellS89_1 HGz6
    have hcz6_2:=cellS89_2 HGz6
    have hcz6_4:=cellS89_4 HGz6
    have hcz6_5:=cellS89_5 HGz6
    have hfz6_4:=blk_frozen HGz6 4
    have hfz6_5:=blk_frozen HGz6 5
    clear HGz6 hgz6
    have p282:0≤(s0_1:Int):=of_decide_eq_true zS
    have q282:s0_1<(s0_0.length:Int):=of_decide_eq_true zS
    obtain ⟨ad282,e282,hx282_0,hx282_1⟩:=at_T101 HSz6_0 s0_1 p282 q282
    cases e282
    replace hx282_0:=pw_cell_below HB.out hx282_0
    replace hx282_1:=pw_cell_below HB.out hx282_1
    replace p282:=eq_true p282
    replace q282:=eq_true q282
    go_enter Try.func61,Try.ntmps61
    go_wp2
    repeat (go_quiet (fail);try go_wp2)
    first | go_end0 | ((try simp only [Exit.inBlock,Exit.then]);refine bodyPost_ret (results_none rfl _ _ _) rfl ?_)
    exact ⟨zF,by repeat (first | (with_reducible first | exact HI0.out | apply IsS89.alloc | apply IsS89.drewN | apply IsS89.drew | apply IsS89.set_1 | apply IsS89.set_2 | apply IsS89.set_3 | apply IsS89.set_4 | apply IsS89.set_5) | exact HI0.out),zC HB.out (IsS89.ge HI0.out),by repeat (first | (with_reducible first | exact HK.out | apply KeepBut.set_ | apply keep_drewN | apply keep_drew | apply keep_alloc) | exact HK.out)⟩
   ·rw [if_neg c5] at H
    exact absurd H (by simp)
  ·rw [if_neg c4] at H
   have c4b0:decide (s0_1<(s0_0.length:Int))=false:=decide_eq_false c4
   clear c4
   simp only [Option.some.injEq,Prod.mk.injEq] at H
   obtain ⟨rfl,rfl,rfl,rfl,rfl⟩:=H
   obtain ⟨ASz7_0,cSz7_0,HGz7,hgz7,HSz7_0⟩:=HI0.out
   have hcz7_0:=cellS89_0 HGz7
   have hcz7_1:=cellS89_1 HGz7
   have hcz7_2:=cellS89_2 HGz7
   have hcz7_4:=cellS89_4 HGz7
   have hcz7_5:=cellS89_5 HGz7
   have hfz7_4:=blk_frozen HGz7 4
   have hfz7_5:=blk_frozen HGz7 5
   clear HGz7 hgz7
   go_enter Try.func61,Try.ntmps61
   go_wp2
   repeat (go_quiet (fail);try go_wp2)
   first | go_end0 | ((try simp only [Exit.inBlock,Exit.then]);refine bodyPost_ret (results_none rfl _ _ _) rfl ?_)
   exact ⟨zF,by repeat (first | (with_reducible first | exact HI0.out | apply IsS89.alloc | apply IsS89.drewN | apply IsS89.drew | apply IsS89.set_1 | apply IsS89.set_2 | apply IsS89.set_3 | apply IsS89.set_4 | apply IsS89.set_5) | exact HI0.out),zC HB.out (IsS89.ge HI0.out),by repeat (first | (with_reducible first | exact HK.out | apply KeepBut.set_ | apply keep_drewN | apply keep_drew | apply keep_alloc) | exact HK.out)⟩
 ·rw [if_neg c3] at H
  have c3b1:(s0_4 !=0)=true:=bne_iff_ne.mpr c3
  simp only [Option.some.injEq,Prod.mk.injEq] at H
  obtain ⟨rfl,rfl,rfl,rfl,rfl⟩:=H
  obtain ⟨ASz8_0,cSz8_0,HGz8,hgz8,HSz8_0⟩:=HI0.out
  have hcz8_4:=cellS89_4 HGz8
  clear HGz8 hgz8
  go_enter Try.func61,Try.ntmps61
  go_wp2
  repeat (go_quiet (fail);try go_wp2)
  first | go_end0 | ((try simp only [Exit.inBlock,Exit.then]);refine bodyPost_ret (results_none rfl _ _ _) rfl ?_)
  exact ⟨zF,by repeat (first | (with_reducible first | exact HI0.out | apply IsS89.alloc | apply IsS89.drewN | apply IsS89.drew | apply IsS89.set_1 | apply IsS89.set_2 | apply IsS89.set_3 | apply IsS89.set_4 | apply IsS89.set_5) | exact HI0.out),zC HB.out (IsS89.ge HI0.out),by repeat (first | (with_reducible first | exact HK.out | apply KeepBut.set_ | apply keep_drewN | apply keep_drew | apply keep_alloc) | exact HK.out)⟩
def r06_Reader_peek.f (s0_0:List (S101)) (s0_1:Int) (s0_2:Int) (s0_3:Int) (s0_4:Int) (s0_5:Int) (a1:Int):Option (ByteArray × Int × Int × Int × Int × Int):=if s0_4=0 then (if (wrap64 (s0_1+a1))≥(s0_0.length:Int) then (some ((⟨#[]⟩:ByteArray),s0_1,s0_2,s0_3,s0_4,s0_5)) else (if 0≤(wrap64 (s0_1+a1)) then (if (wrap64 (s0_1+a1))<(s0_0.length:Int) then (some ((rd_T101 s0_0 (wrap64 (s0_1+a1))).f0,s0_1,s0_2,s0_3,s0_4,s0_5)) else (none)) else (none))) else (some ((⟨#[]⟩:ByteArray),s0_1,s0_2,s0_3,s0_4,s0_5))
theorem r06_Reader_peek.calls (g:Nat) (s0_0:List (S101)) (s0_1:Int) (s0_2:Int) (s0_3:Int) (s0_4:Int) (s0_5:Int) (a1:Int) (r1:ByteArray) (r2:Int) (r3:Int) (r4:Int) (r5:Int) (r6:Int) (w0 w:World) (hI:IsS89 w0 w g s0_0 s0_1 s0_2 s0_3 s0_4 s0_5) (hB:Below w0.heap.size w0 w) (h:r06_Reader_peek.f s0_0 s0_1 s0_2 s0_3 s0_4 s0_5 a1=some (r1,r2,r3,r4,r5,r6)):
  Calls Try.prog 86 #[.pointer (some ⟨g,0,none⟩),.int .i64 a1] w fun e w'=>e=.returned (.string r1)∧IsS89 w0 w' g s0_0 r2 r3 r4 r5 r6∧Below w0.heap.size w0 w'∧KeepBut w w' g none:=by
 have HI0:=aM hI
 have HK:=aM (KeepBut.refl w g none)
 clear hI
 have HB:=aM hB
 clear hB
 have H:(if s0_4=0 then (if (wrap64 (s0_1+a1))≥(s0_0.length:Int) then (some ((⟨#[]⟩:ByteArray),s0_1,s0_2,s0_3,s0_4,s0_5)) else (if 0≤(wrap64 (s0_1+a1)) then (if (wrap64 (s0_1+a1))<(s0_0.length:Int) then (some ((rd_T101 s0_0 (wrap64 (s0_1+a1))).f0,s0_1,s0_2,s0_3,s0_4,s0_5)) else (none)) else (none))) else (some ((⟨#[]⟩:ByteArray),s0_1,s0_2,s0_3,s0_4,s0_5)))=some (r1,r2,r3,r4,r5,r6):=h
 clear h
 by_cases c3:s0_4=0
 ·rw [if_pos c3] at H
  have c3b1:(s0_4 !=0)=false:=bne_eq_false_iff_eq.mpr c3
  clear c3
  by_cases c4:(wrap64 (s0_1+a1))≥(s0_0.length:Int)
  ·rw [if_pos c4] at H
   have c4b0:decide ((s0_0.length:Int)≤(wrap64 (s0_1+a1)))=true:=decide_eq_true c4
   clear c4
   simp only [Option.some.injEq,Prod.mk.injEq] at H
   obtain ⟨rfl,rfl,rfl,rfl,rfl,rfl⟩:=H
   obtain ⟨ASz5_0,cSz5_0,HGz5,hgz5,HSz5_0⟩:=HI0.out
   have hcz5_0:=cellS89_0 HGz5
   have hcz5_1:=cellS89_1 HGz5
   have hcz5_4:=cellS89_4 HGz5
   clear HGz5 hgz5
   go_enter Try.func86,Try.ntmps86
   go_wp2
   repeat (go_quiet (fail);try go_wp2)
   go_ret
   exact ⟨zF,by repeat (first | (with_reducible first | exact HI0.out | apply IsS89.alloc | apply IsS89.drewN | apply IsS89.drew | apply IsS89.set_1 | apply IsS89.set_2 | apply IsS89.set_3 | apply IsS89.set_4 | apply IsS89.set_5) | exact HI0.out),zC HB.out (IsS89.ge HI0.out),by repeat (first | (with_reducible first | exact HK.out | apply KeepBut.set_ | apply keep_drewN | apply keep_drew | apply keep_alloc) | exact HK.out)⟩
  ·rw [if_neg c4] at H
   have c4b0:decide ((s0_0.length:Int)≤(wrap64 (s0_1+a1)))=false:=decide_eq_false c4
   clear c4
   obtain ⟨ji6,hji6⟩:∃ j_:Int,(wrap64 (s0_1+a1))=j_:=⟨_,rfl⟩
   replace H:(if 0≤(ji6) then (if (ji6)<(s0_0.length:Int) then (some ((rd_T101 s0_0 (ji6)).f0,s0_1,s0_2,s0_3,s0_4,s0_5)) else (none)) else (none))=some (r1,r2,r3,r4,r5,r6):=by first | (rw [hji6] at H;exact H) | (simp only [hji6] at H ⊢;exact H)
   (try rw [hji6] at c4b0)
   have hji6w:(IntKind.i64.wrap (s0_1+a1))=ji6:=(i64_w _).trans hji6
   by_cases c7:0≤(ji6)
   ·rw [if_pos c7] at H
    have c7b0:decide (0≤(ji6))=true:=decide_eq_true c7
    clear c7
    by_cases c8:(ji6)<(s0_0.length:Int)
    ·rw [if_pos c8] at H
     have c8b0:decide ((ji6)<(s0_0.length:Int))=true:=decide_eq_true c8
     clear c8
     simp only [Option.some.injEq,Prod.mk.injEq] at H
     obtain ⟨rfl,rfl,rfl,rfl,rfl,rfl⟩:=H
     obtain ⟨ASz9_0,cSz9_0,HGz9,hgz9,HSz9_0⟩:=HI0.out
     have hcz9_0:=cellS89_0 HGz9
     have hcz9_1:=cellS89_1 HGz9
     have hcz9_4:=cellS89_4 HGz9
     clear HGz9 hgz9
     have p283:0≤((ji6):Int):=of_decide_eq_true zS
     have q283:(ji6)<(s0_0.length:Int):=of_decide_eq_true zS
     obtain ⟨ad283,e283,hx283_0,hx283_1⟩:=at_T101 HSz9_0 (ji6) p283 q283
     cases e283
     replace hx283_0:=pw_cell_below HB.out hx283_0
     replace hx283_1:=pw_cell_below HB.out hx283_1
     replace p283:=eq_true p283
     replace q283:=eq_true q283
     go_enter Try.func86,Try.ntmps86
     go_wp2
     repeat (go_quiet (fail);try go_wp2)
     go_ret
     exact ⟨by first | rfl | (simp [errW_none,errW_some]<;>rfl) | (simp only [← hji6];first | rfl | (simp [errW_none,errW_some]<;>rfl)) | (simp [*,errW_none,errW_some]<;>rfl),by repeat (first | (with_reducible first | exact HI0.out | apply IsS89.alloc | apply IsS89.drewN | apply IsS89.drew | apply IsS89.set_1 | apply IsS89.set_2 | apply IsS89.set_3 | apply IsS89.set_4 | apply IsS89.set_5) | exact HI0.out),zC HB.out (IsS89.ge HI0.out),by repeat (first | (with_reducible first | exact HK.out | apply KeepBut.set_ | apply keep_drewN | apply keep_drew | apply keep_alloc) | exact HK.out)⟩
    ·rw [if_neg c8] at H
     exact absurd H (by simp)
   ·rw [if_neg c7] at H
    exact absurd H (by simp)
 ·rw [if_neg c3] at H
  have c3b1:(s0_4 !=0)=true:=bne_iff_ne.mpr c3
  simp only [Option.some.injEq,Prod.mk.injEq] at H
  obtain ⟨rfl,rfl,rfl,rfl,rfl,rfl⟩:=H
  obtain ⟨ASz10_0,cSz10_0,HGz10,hgz10,HSz10_0⟩:=HI0.out
  have hcz10_4:=cellS89_4 HGz10
  clear HGz10 hgz10
  go_enter Try.func86,Try.ntmps86
  go_wp2
  repeat (go_quiet (fail);try go_wp2)
  go_ret
  exact ⟨zF,by repeat (first | (with_reducible first | exact HI0.out | apply IsS89.alloc | apply IsS89.drewN | apply IsS89.drew | apply IsS89.set_1 | apply IsS89.set_2 | apply IsS89.set_3 | apply IsS89.set_4 | apply IsS89.set_5) | exact HI0.out),zC HB.out (IsS89.ge HI0.out),by repeat (first | (with_reducible first | exact HK.out | apply KeepBut.set_ | apply keep_drewN | apply keep_drew | apply keep_alloc) | exact HK.out)⟩
end Go.Proofs.Ytkjdblbgmomieaa.PSh
end
-- from YtkjdblbgmomieaaPShx23
section
namespace Go.Proofs.Ytkjdblbgmomieaa.PSh
set_option maxHeartbeats 8000000
set_option maxRecDepth 100000
open Go.RowKit Go.Proofs.YtkjdblbgmomieaaW.PrintWords Go.Proofs.YtkjdblbgmomieaaW.PrintLast Go.Proofs.YtkjdblbgmomieaaW.PrintMore Go.Proofs.Ytkjdblbgmomieaa.Zip
attribute [local go_sem] max2_int min2_int max_two min_two max_three min_three max_four min_four   -- for this text's walks alone
set_option linter.unusedVariables false
set_option linter.unusedSimpArgs false
def r06_Reader_taken.f (s0_0:List (S101)) (s0_1:Int) (s0_2:Int) (s0_3:Int) (s0_4:Int) (s0_5:Int):Option (Bool × Int × Int × Int × Int × Int):=(r06_Reader_peek.f s0_0 s0_1 s0_2 s0_3 s0_4 s0_5 0).bind fun bt380=>(if bt380.1.toList=([]:List UInt8) then (some (false,bt380.2.1,bt380.2.2.1,bt380.2.2.2.1,bt380.2.2.2.2.1,bt380.2.2.2.2.2)) else (if 0<(bt380.1.size:Int) then (if (bt bt380.1 0)=37 then ((r06_Reader_peek.f s0_0 bt380.2.1 bt380.2.2.1 bt380.2.2.2.1 bt380.2.2.2.2.1 bt380.2.2.2.2.2 1).bind fun bt386=>(some ((bt386.1.toList !=([61]:List UInt8)),bt386.2.1,bt386.2.2.1,bt386.2.2.2.1,bt386.2.2.2.2.1,bt386.2.2.2.2.2))) else (some (false,bt380.2.1,bt380.2.2.1,bt380.2.2.2.1,bt380.2.2.2.2.1,bt380.2.2.2.2.2))) else (none)))
theorem r06_Reader_taken.calls (g:Nat) (s0_0:List (S101)) (s0_1:Int) (s0_2:Int) (s0_3:Int) (s0_4:Int) (s0_5:Int) (r1:Bool) (r2:Int) (r3:Int) (r4:Int) (r5:Int) (r6:Int) (w0 w:World) (hI:IsS89 w0 w g s0_0 s0_1 s0_2 s0_3 s0_4 s0_5) (hB:Below w0.heap.size w0 w) (h:r06_Reader_taken.f s0_0 s0_1 s0_2 s0_3 s0_4 s0_5=some (r1,r2,r3,r4,r5,r6)):
  Calls Try.prog 113 #[.pointer (some ⟨g,0,none⟩)] w fun e w'=>e=.returned (.bool r1)∧IsS89 w0 w' g s0_0 r2 r3 r4 r5 r6∧Below w0.heap.size w0 w'∧KeepBut w w' g none:=by
 have HI0:=aM hI
 have HK:=aM (KeepBut.refl w g none)
 clear hI
 have HB:=aM hB
 clear hB
 have H:((r06_Reader_peek.f s0_0 s0_1 s0_2 s0_3 s0_4 s0_5 0).bind fun bt380=>(if bt380.1.toList=([]:List UInt8) then (some (false,bt380.2.1,bt380.2.2.1,bt380.2.2.2.1,bt380.2.2.2.2.1,bt380.2.2.2.2.2)) else (if 0<(bt380.1.size:Int) then (if (bt bt380.1 0)=37 then ((r06_Reader_peek.f s0_0 bt380.2.1 bt380.2.2.1 bt380.2.2.2.1 bt380.2.2.2.2.1 bt380.2.2.2.2.2 1).bind fun bt386=>(some ((bt386.1.toList !=([61]:List UInt8)),bt386.2.1,bt386.2.2.1,bt386.2.2.2.1,bt386.2.2.2.2.1,bt386.2.2.2.2.2))) else (some (false,bt380.2.1,bt380.2.2.1,bt380.2.2.2.1,bt380.2.2.2.2.1,bt380.2.2.2.2.2))) else (none))))=some (r1,r2,r3,r4,r5,r6):=h
 clear h
 replace H:=Option.bind_eq_some_iff.mp H
 obtain ⟨⟨t380,t381,t382,t383,t384,t385⟩,A20,H⟩:=H
 have A2:=aM A20
 clear A20
 by_cases c3:t380.toList=([]:List UInt8)
 ·rw [if_pos c3] at H
  have c3b0:(t380.toList==([]:List UInt8))=true:=beq_iff_eq.mpr c3
  clear c3
  simp only [Option.some.injEq,Prod.mk.injEq] at H
  obtain ⟨rfl,rfl,rfl,rfl,rfl,rfl⟩:=H
  go_enter Try.func113,Try.ntmps113
  go_wp2_with (first | ((with_reducible refine gate_callee (f:=86) rfl ?_);refine goesL_ (some 5) rfl rfl Try.func86 (by kernel_rfl) rfl #[.pointer (some ⟨g,0,none⟩),.int .i64 0] rfl zA ?_;(with_reducible refine (r06_Reader_peek.calls g s0_0 s0_1 s0_2 s0_3 s0_4 s0_5 0 t380 t381 t382 t383 t384 t385 w0 _ ?side1 ?side2 A2.out).mono ?_);(case side1=>repeat (first | (with_reducible first | exact HI0.out | apply IsS89.alloc | apply IsS89.drewN | apply IsS89.drew | apply IsS89.set_1 | apply IsS89.set_2 | apply IsS89.set_3 | apply IsS89.set_4 | apply IsS89.set_5) | exact HI0.out));(case side2=>repeat (first | (with_reducible first | exact HB.out | apply below_alloc | apply pw_below_drewN | apply below_drew1 | refine below_set ?_ (IsS89.ge HI0.out)) | exact HB.out));rintro e w4 ⟨rfl,hi,hb,hk⟩;refine ⟨_,rfl,?_⟩;have n0_:=aM (KeepBut.trans (by repeat (first | (with_reducible first | exact HK.out | apply KeepBut.set_ | apply keep_drewN | apply keep_drew | apply keep_alloc) | exact HK.out)) hk (.inl rfl));have n1_:=aM (hb);have n2_:=aM (hi);clear HK;clear HB;clear HI0;have HK:=n0_;have HB:=n1_;have HI0:=n2_;clear n0_ n1_ n2_;(try clear hb);(try clear hb2);(try clear hk);(try clear hi)))
  go_ret
  exact ⟨zF,by repeat (first | (with_reducible first | exact HI0.out | apply IsS89.alloc | apply IsS89.drewN | apply IsS89.drew | apply IsS89.set_1 | apply IsS89.set_2 | apply IsS89.set_3 | apply IsS89.set_4 | apply IsS89.set_5) | exact HI0.out),zC HB.out (IsS89.ge HI0.out),by repeat (first | (with_reducible first | exact HK.out | apply KeepBut.set_ | apply keep_drewN | apply keep_drew | apply keep_alloc) | exact HK.out)⟩
 ·rw [if_neg c3] at H
  have c3b0:(t380.toList==([]:List UInt8))=false:=beq_eq_false_iff_ne.mpr c3
  by_cases c5:0<(t380.size:Int)
  ·rw [if_pos c5] at H
   have c5b0:decide (0<(t380.size:Int))=true:=decide_eq_true c5
   clear c5
   by_cases c7:(bt t380 0)=37
   ·rw [if_pos c7] at H
    have c7b0:((bt t380 0)==37)=true:=beq_iff_eq.mpr c7
    clear c7
    replace H:=Option.bind_eq_some_iff.mp H
    obtain ⟨⟨t386,t387,t388,t389,t390,t391⟩,A80,H⟩:=H
    have A8:=aM A80
    clear A80
    simp only [Option.some.injEq,Prod.mk.injEq] at H
    obtain ⟨rfl,rfl,rfl,rfl,rfl,rfl⟩:=H
    go_enter Try.func113,Try.ntmps113
    go_wp2_with (first | ((with_reducible refine gate_callee (f:=86) rfl ?_);refine goesL_ (some 5) rfl rfl Try.func86 (by kernel_rfl) rfl #[.pointer (some ⟨g,0,none⟩),.int .i64 0] rfl zA ?_;(with_reducible refine (r06_Reader_peek.calls g s0_0 s0_1 s0_2 s0_3 s0_4 s0_5 0 t380 t381 t382 t383 t384 t385 w0 _ ?side1 ?side2 A2.out).mono ?_);(case side1=>repeat (first | (with_reducible first | exact HI0.out | apply IsS89.alloc | apply IsS89.drewN | apply IsS89.drew | apply IsS89.set_1 | apply IsS89.set_2 | apply IsS89.set_3 | apply IsS89.set_4 | apply IsS89.set_5) | exact HI0.out));(case side2=>repeat (first | (with_reducible first | exact HB.out | apply below_alloc | apply pw_below_drewN | apply below_drew1 | refine below_set ?_ (IsS89.ge HI0.out)) | exact HB.out));rintro e w9 ⟨rfl,hi,hb,hk⟩;refine ⟨_,rfl,?_⟩;have n0_:=aM (KeepBut.trans (by repeat (first | (with_reducible first | exact HK.out | apply KeepBut.set_ | apply keep_drewN | apply keep_drew | apply keep_alloc) | exact HK.out)) hk (.inl rfl));have n1_:=aM (hb);have n2_:=aM (hi);clear HK;clear HB;clear HI0;have HK:=n0_;have HB:=n1_;have HI0:=n2_;clear n0_ n1_ n2_;(try clear hb);(try clear hb2);(try clear hk);(try clear hi);have q6:0<t380.size:=(by have:(0:Int)<(t380.size:Int):=of_decide_eq_true zS;omega);have hx6:∀ h:0<t380.size,((t380[0]'h).toNat:Int)=bt t380 0:=bt_at t380 0;replace q6:=eq_true q6) | (go_at_call 86;(with_reducible refine (r06_Reader_peek.calls g s0_0 t381 t382 t383 t384 t385 1 t386 t387 t388 t389 t390 t391 w0 _ ?side1 ?side2 A8.out).mono ?_);(case side1=>repeat (first | (with_reducible first | exact HI0.out | apply IsS89.alloc | apply IsS89.drewN | apply IsS89.drew | apply IsS89.set_1 | apply IsS89.set_2 | apply IsS89.set_3 | apply IsS89.set_4 | apply IsS89.set_5) | exact HI0.out));(case side2=>repeat (first | (with_reducible first | exact HB.out | apply below_alloc | apply pw_below_drewN | apply below_drew1 | refine below_set ?_ (IsS89.ge HI0.out)) | exact HB.out));rintro e w10 ⟨rfl,hi,hb,hk⟩;have n0_:=aM (KeepBut.trans (by repeat (first | (with_reducible first | exact HK.out | apply KeepBut.set_ | apply keep_drewN | apply keep_drew | apply keep_alloc) | exact HK.out)) hk (.inl rfl));have n1_:=aM (hb);have n2_:=aM (hi);clear HK;clear HB;clear HI0;have HK:=n0_;have HB:=n1_;have HI0:=n2_;clear n0_ n1_ n2_;(try clear hb);(try clear hb2);(try clear hk);(try clear hi)))
    go_ret
    exact ⟨zF,by repeat (first | (with_reducible first | exact HI0.out | apply IsS89.alloc | apply IsS89.drewN | apply IsS89.drew | apply IsS89.set_1 | apply IsS89.set_2 | apply IsS89.set_3 | apply IsS89.set_4 | apply IsS89.set_5) | exact HI0.out),zC HB.out (IsS89.ge HI0.out),by repeat (first | (with_reducible first | exact HK.out | apply KeepBut.set_ | apply keep_drewN | apply keep_drew | apply keep_alloc) | exact HK.out)⟩
   ·rw [if_neg c7] at H
    have c7b0:((bt t380 0)==37)=false:=beq_eq_false_iff_ne.mpr c7
    simp only [Option.some.injEq,Prod.mk.injEq] at H
    obtain ⟨rfl,rfl,rfl,rfl,rfl,rfl⟩:=H
    go_enter Try.func113,Try.ntmps113
    go_wp2_with (first | ((with_reducible refine gate_callee (f:=86) rfl ?_);refine goesL_ (some 5) rfl rfl Try.func86 (by kernel_rfl) rfl #[.pointer (some ⟨g,0,none⟩),.int .i64 0] rfl zA ?_;(with_reducible refine (r06_Reader_peek.calls g s0_0 s0_1 s0_2 s0_3 s0_4 s0_5 0 t380 t381 t382 t383 t384 t385 w0 _ ?side1 ?side2 A2.out).mono ?_);(case side1=>repeat (first | (with_reducible first | exact HI0.out | apply IsS89.alloc | apply IsS89.drewN | apply IsS89.drew | apply IsS89.set_1 | apply IsS89.set_2 | apply IsS89.set_3 | apply IsS89.set_4 | apply IsS89.set_5) | exact HI0.out));(case side2=>repeat (first | (with_reducible first | exact HB.out | apply below_alloc | apply pw_below_drewN | apply below_drew1 | refine below_set ?_ (IsS89.ge HI0.out)) | exact HB.out));rintro e w11 ⟨rfl,hi,hb,hk⟩;refine ⟨_,rfl,?_⟩;have n0_:=aM (KeepBut.trans (by repeat (first | (with_reducible first | exact HK.out | apply KeepBut.set_ | apply keep_drewN | apply keep_drew | apply keep_alloc) | exact HK.out)) hk (.inl rfl));have n1_:=aM (hb);have n2_:=aM (hi);clear HK;clear HB;clear HI0;have HK:=n0_;have HB:=n1_;have HI0:=n2_;clear n0_ n1_ n2_;(try clear hb);(try clear hb2);(try clear hk);(try clear hi);have q6:0<t380.size:=(by have:(0:Int)<(t380.size:Int):=of_decide_eq_true zS;omega);have hx6:∀ h:0<t380.size,((t380[0]'h).toNat:Int)=bt t380 0:=bt_at t380 0;replace q6:=eq_true q6))
    go_ret
    exact ⟨zF,by repeat (first | (with_reducible first | exact HI0.out | apply IsS89.alloc | apply IsS89.drewN | apply IsS89.drew | apply IsS89.set_1 | apply IsS89.set_2 | apply IsS89.set_3 | apply IsS89.set_4 | apply IsS89.set_5) | exact HI0.out),zC HB.out (IsS89.ge HI0.out),by repeat (first | (with_reducible first | exact HK.out | apply KeepBut.set_ | apply keep_drewN | apply keep_drew | apply keep_alloc) | exact HK.out)⟩
  ·rw [if_neg c5] at H
   exact absurd H (by simp)
end Go.Proofs.Ytkjdblbgmomieaa.PSh
end
