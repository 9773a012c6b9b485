import Derived.Test.YtkjdblbgmomieaaMv2
import Derived.Test.YtkjdblbgmomieaaMv7
import Derived.Test.YtkjdblbgmomieaaMv25
import Derived.Test.YtkjdblbgmomieaaMv3
import Derived.Test.YtkjdblbgmomieaaMv17
import Derived.Test.YtkjdblbgmomieaaMv24
import Derived.KernelRfl
section
namespace Go.Proofs.Ytkjdblbgmomieaa.PSh
set_option maxHeartbeats 8000000
set_option maxRecDepth 100000
open Go.RowKit Go.Proofs.YtkjdblbgmomieaaW.PrintWords Go.Proofs.YtkjdblbgmomieaaW.PrintLast Go.Proofs.YtkjdblbgmomieaaW.PrintMore Go.Proofs.Ytkjdblbgmomieaa.Zip
attribute [local go_sem] max2_int min2_int max_two min_two max_three min_three max_four min_four   -- for this text's walks alone
set_option linter.unusedVariables false
set_option linter.unusedSimpArgs false
mutual
def r07_Func.l0:Nat→ByteArray→Int→ByteArray→List Int→Int→List (List (S39))→Int→Option (ByteArray)
 | 0,_,_,_,_,_,_,_=>none
 | k+1,x3,x4,x237000,x237001,x237002,x237003,x237004=>if x4<(x237001.length:Int) then (if x4>0 then (if x3.size+1≤9223372036854775807 then (if 0≤x4 then ((r05_Letter.f (rd x237001 x4)).bind fun t238=>(if (x3++(⟨#[32]⟩:ByteArray)).size+t238.size≤9223372036854775807 then (r07_Func.l0 k ((x3++(⟨#[32]⟩:ByteArray))++t238) (wrap64 (x4+1)) x237000 x237001 x237002 x237003 x237004) else (none))) else (none)) else (none)) else (if 0≤x4 then ((r05_Letter.f (rd x237001 x4)).bind fun t240=>(if x3.size+t240.size≤9223372036854775807 then (r07_Func.l0 k (x3++t240) (wrap64 (x4+1)) x237000 x237001 x237002 x237003 x237004) else (none))) else (none))) else (if x3.size+2≤9223372036854775807 then ((r05_Letter.f x237002).bind fun t241=>(if (x3++(⟨#[41,32]⟩:ByteArray)).size+t241.size≤9223372036854775807 then (if ((x3++(⟨#[41,32]⟩:ByteArray))++t241).size+3≤9223372036854775807 then (r07_Func.l1 k (((x3++(⟨#[41,32]⟩:ByteArray))++t241)++(⟨#[32,123,10]⟩:ByteArray)) 0 x237000 x237001 x237002 x237003 x237004) else (none)) else (none))) else (none))
def r07_Func.l1:Nat→ByteArray→Int→ByteArray→List Int→Int→List (List (S39))→Int→Option (ByteArray)
 | 0,_,_,_,_,_,_,_=>none
 | k+1,x3,x5,x237000,x237001,x237002,x237003,x237004=>if x5<(x237003.length:Int) then (if x3.size+1≤9223372036854775807 then ((r07_small.f k x5).bind fun t242=>(if (x3++(⟨#[98]⟩:ByteArray)).size+t242.size≤9223372036854775807 then (if ((x3++(⟨#[98]⟩:ByteArray))++t242).size+2≤9223372036854775807 then (r07_Func.l2 k (((x3++(⟨#[98]⟩:ByteArray))++t242)++(⟨#[58,10]⟩:ByteArray)) x5 0 x237000 x237001 x237002 x237003 x237004) else (none)) else (none))) else (none)) else (if x3.size+2≤9223372036854775807 then (some (x3++(⟨#[125,10]⟩:ByteArray))) else (none))
def r07_Func.l2:Nat→ByteArray→Int→Int→ByteArray→List Int→Int→List (List (S39))→Int→Option (ByteArray)
 | 0,_,_,_,_,_,_,_,_=>none
 | k+1,x3,x5,x6,x237000,x237001,x237002,x237003,x237004=>if 0≤x5 then (if x5<(x237003.length:Int) then (if x6<((rd_L4 x237003 x5).length:Int) then (if x3.size+2≤9223372036854775807 then (if 0≤x6 then ((r07_Instr.f k ((rd_T39 (rd_L4 x237003 x5) x6).f0) ((rd_T39 (rd_L4 x237003 x5) x6).f1) ((rd_T39 (rd_L4 x237003 x5) x6).f2) ((rd_T39 (rd_L4 x237003 x5) x6).f3) ((rd_T39 (rd_L4 x237003 x5) x6).f4) ((rd_T39 (rd_L4 x237003 x5) x6).f5) ((rd_T39 (rd_L4 x237003 x5) x6).f6) ((rd_T39 (rd_L4 x237003 x5) x6).f7)).bind fun t246=>(if (x3++(⟨#[32,32]⟩:ByteArray)).size+t246.size≤9223372036854775807 then (if ((x3++(⟨#[32,32]⟩:ByteArray))++t246).size+1≤9223372036854775807 then (r07_Func.l2 k (((x3++(⟨#[32,32]⟩:ByteArray))++t246)++(⟨#[10]⟩:ByteArray)) x5 (wrap64 (x6+1)) x237000 x237001 x237002 x237003 x237004) else (none)) else (none))) else (none)) else (none)) else (r07_Func.l1 k x3 (wrap64 (x5+1)) x237000 x237001 x237002 x237003 x237004)) else (none)) else (none)
end
def r07_Func.f (k:Nat) (a0_0:ByteArray) (l0_1:List Int) (a0_2:Int) (l0_3:List (List (S39))) (a0_4:Int):Option (ByteArray):=if 5+a0_0.size≤9223372036854775807 then (if ((⟨#[102,117,110,99,32]⟩:ByteArray)++a0_0).size+1≤9223372036854775807 then (r07_Func.l0 k (((⟨#[102,117,110,99,32]⟩:ByteArray)++a0_0)++(⟨#[40]⟩:ByteArray)) 0 a0_0 l0_1 a0_2 l0_3 a0_4) else (none)) else (none)
theorem r07_Func.calls (k:Nat) (a0_0:ByteArray) (A0_1:Option Addr) (c0_1:Nat) (l0_1:List Int) (a0_2:Int) (A0_3:Option Addr) (c0_3:Nat) (l0_3:List (List (S39))) (a0_4:Int) (r:ByteArray) (w:World) (hr0_1:Kd.C (Kd.int .i64) w A0_1 l0_1.length l0_1) (hc0_1:l0_1.length≤c0_1) (hr0_3:Kd.C (Kd.slice 39 k39) w A0_3 l0_3.length l0_3) (hc0_3:l0_3.length≤c0_3) (h:r07_Func.f k a0_0 l0_1 a0_2 l0_3 a0_4=some r):
  Calls Try.prog 12 #[.agg #[.string a0_0,.slice A0_1 l0_1.length c0_1,.int .i64 a0_2,.slice A0_3 l0_3.length c0_3,.int .i64 a0_4]] w fun e w'=>e=.returned (.string r)∧Below w.heap.size w w':=by
 have HR0_1:=aM hr0_1
 clear hr0_1 hc0_1
 have HR0_3:=aM hr0_3
 clear hr0_3 hc0_3
 have HB:=aM (Below.refl w.heap.size w)
 have H:(if 5+a0_0.size≤9223372036854775807 then (if ((⟨#[102,117,110,99,32]⟩:ByteArray)++a0_0).size+1≤9223372036854775807 then (r07_Func.l0 k (((⟨#[102,117,110,99,32]⟩:ByteArray)++a0_0)++(⟨#[40]⟩:ByteArray)) 0 a0_0 l0_1 a0_2 l0_3 a0_4) else (none)) else (none))=some r:=h
 clear h
 by_cases c2:5+a0_0.size≤9223372036854775807
 ·rw [if_pos c2] at H
  try have c2b2:(9223372036854775807<5+a0_0.size)=False:=eq_false (Nat.not_lt.2 c2)
  by_cases c3:((⟨#[102,117,110,99,32]⟩:ByteArray)++a0_0).size+1≤9223372036854775807
  ·rw [if_pos c3] at H
   try have c3b2:(9223372036854775807<((⟨#[102,117,110,99,32]⟩:ByteArray)++a0_0).size+1)=False:=eq_false (Nat.not_lt.2 c3)
   try (have c3b3:=c3b2;simp only [ByteArray.size_append,show ((⟨#[102,117,110,99,32]⟩:ByteArray)).size=5 from rfl] at c3b3)
   have H':=aM H
   clear H
   go_enter Try.func12,Try.ntmps12
   go_wp2_with (first | ((with_reducible refine gate_dst (N:=1) rfl ?_);refine box_event ?hg (N:=1) ?hd (cs:=#[.string a0_0,.slice A0_1 l0_1.length c0_1,.int .i64 a0_2,.slice A0_3 l0_3.length c0_3,.int .i64 a0_4]) (t:=34) ?hr ?_;(case hd=>rfl);(case hg=>rfl);(case hr=>first | (go_simp;done) | (go_simp;rfl));intro gb236 hg w4 hbox hb;have n0_:=aM (below_step (zB HB.out) hb);have n1_:=aM (hbox);have n2_:=aM ((by rw [hg];exact (below_size (zB HB.out)):w.heap.size≤gb236));have n3_:=aM ((by rw [hg];exact (below_size (zB HB.out)):w.heap.size≤gb236));clear HB;have HB:=n0_;have BK236:=n1_;have GE236:=n3_;clear n0_ n1_ n2_ n3_;clear hb hbox hg;have hcz5_0:w4.cell? ⟨gb236,0,none⟩=some (.string a0_0):=(blk_cell BK236.out 0).trans rfl))
   go_loopg [3,4] k (fun kq v3 v4 w'=>∃ (x3_1:ByteArray) (x4_1:Int),v3=.string x3_1∧v4=.int .i64 x4_1∧Aside0 (r07_Func.l0 kq x3_1 x4_1 a0_0 l0_1 a0_2 l0_3 a0_4=some r)∧Aside0 (kq≤k)∧Aside0 (w'.heap[gb236]?=some (.cells #[.string a0_0,(.slice A0_1 l0_1.length c0_1),.int .i64 a0_2,(.slice A0_3 l0_3.length c0_3),.int .i64 a0_4] 34 (0,0)))∧Aside0 (Below w.heap.size w w'))
   case atStart=>exact ⟨(((⟨#[102,117,110,99,32]⟩:ByteArray)++a0_0)++(⟨#[40]⟩:ByteArray)),(0),(by first | rfl | (simp;done) | (simp [*];done)),(by first | rfl | (simp;done) | (simp [*];done)),H',⟨Nat.le_refl _⟩,⟨zK BK236.out⟩,⟨zC HB.out GE236.out⟩⟩
   case round=>
    clear H' c2 c2b2 c3 c3b2 hcz5_0
    obtain ⟨x3_1,x4_1,rfl,rfl,HA,HK1,BK236,HB⟩:=hrel
    cases gk with
    | zero=>exact absurd HA.out (by simp [r07_Func.l0])
    | succ k1=>
     have H:=HA.out
     clear HA
     simp only [r07_Func.l0] at H
     by_cases c6:x4_1<(l0_1.length:Int)
     ·rw [if_pos c6] at H
      have c6b0:decide (x4_1<(l0_1.length:Int))=true:=decide_eq_true c6
      clear c6
      by_cases c7:x4_1>0
      ·rw [if_pos c7] at H
       have c7b0:decide (0<x4_1)=true:=decide_eq_true c7
       clear c7
       by_cases c8:x3_1.size+1≤9223372036854775807
       ·rw [if_pos c8] at H
        try have c8b2:(9223372036854775807<x3_1.size+1)=False:=eq_false (Nat.not_lt.2 c8)
        by_cases c9:0≤x4_1
        ·rw [if_pos c9] at H
         have c9b0:decide (0≤x4_1)=true:=decide_eq_true c9
         clear c9
         replace H:=Option.bind_eq_some_iff.mp H
         obtain ⟨t238,A100,H⟩:=H
         have A10:=aM A100
         clear A100
         by_cases c11:(x3_1++(⟨#[32]⟩:ByteArray)).size+t238.size≤9223372036854775807
         ·rw [if_pos c11] at H
          try have c11b2:(9223372036854775807<(x3_1++(⟨#[32]⟩:ByteArray)).size+t238.size)=False:=eq_false (Nat.not_lt.2 c11)
          try (have c11b3:=c11b2;simp only [ByteArray.size_append,show ((⟨#[32]⟩:ByteArray)).size=1 from rfl] at c11b3)
          have H':=aM H
          clear H
          have hcz12_1:wr.cell? ⟨gb236,1,none⟩=some (.slice A0_1 l0_1.length c0_1):=(blk_cell BK236.out 1).trans rfl
          have p237:0≤(x4_1:Int):=of_decide_eq_true zS
          have q237:x4_1<(l0_1.length:Int):=of_decide_eq_true zS
          obtain ⟨ad237,e237,hx237_0⟩:=Kd.at_int HR0_1.out x4_1 p237 q237
          cases e237
          replace hx237_0:=(HB.out.cell (World.block_lt_of_cell? w _ hx237_0)).trans hx237_0
          replace p237:=eq_true p237
          replace q237:=eq_true q237
          go_wp2_with (first | ((with_reducible refine gate_callee (f:=35) rfl ?_);refine goesL_ (some 28) rfl rfl Try.func35 (by kernel_rfl) rfl #[.int .i64 (rd l0_1 x4_1)] rfl zA ?_;(with_reducible refine (r05_Letter.calls (rd l0_1 x4_1) t238 _ A10.out).mono ?_);rintro e w' ⟨rfl,⟨nd,rfl⟩⟩;refine ⟨_,rfl,?_⟩))
          go_roundg k1
          case measure=>have:=HK1.out;omega
          case rel=>exact ⟨((x3_1++(⟨#[32]⟩:ByteArray))++t238),(wrap64 (x4_1+1)),(by first | rfl | (simp;done) | (simp [*];done)),(by first | rfl | (simp;done) | (simp [*];done)),H',⟨by have:=HK1.out;omega⟩,⟨zK BK236.out⟩,⟨zC HB.out GE236.out⟩⟩
         ·rw [if_neg c11] at H
          exact absurd H (by simp)
        ·rw [if_neg c9] at H
         exact absurd H (by simp)
       ·rw [if_neg c8] at H
        exact absurd H (by simp)
      ·rw [if_neg c7] at H
       have c7b0:decide (0<x4_1)=false:=decide_eq_false c7
       clear c7
       by_cases c13:0≤x4_1
       ·rw [if_pos c13] at H
        have c13b0:decide (0≤x4_1)=true:=decide_eq_true c13
        clear c13
        replace H:=Option.bind_eq_some_iff.mp H
        obtain ⟨t240,A140,H⟩:=H
        have A14:=aM A140
        clear A140
        by_cases c15:x3_1.size+t240.size≤9223372036854775807
        ·rw [if_pos c15] at H
         try have c15b2:(9223372036854775807<x3_1.size+t240.size)=False:=eq_false (Nat.not_lt.2 c15)
         have H':=aM H
         clear H
         have hcz16_1:wr.cell? ⟨gb236,1,none⟩=some (.slice A0_1 l0_1.length c0_1):=(blk_cell BK236.out 1).trans rfl
         have p239:0≤(x4_1:Int):=of_decide_eq_true zS
         have q239:x4_1<(l0_1.length:Int):=of_decide_eq_true zS
         obtain ⟨ad239,e239,hx239_0⟩:=Kd.at_int HR0_1.out x4_1 p239 q239
         cases e239
         replace hx239_0:=(HB.out.cell (World.block_lt_of_cell? w _ hx239_0)).trans hx239_0
         replace p239:=eq_true p239
         replace q239:=eq_true q239
         go_wp2_with (first | ((with_reducible refine gate_callee (f:=35) rfl ?_);refine goesL_ (some 28) rfl rfl Try.func35 (by kernel_rfl) rfl #[.int .i64 (rd l0_1 x4_1)] rfl zA ?_;(with_reducible refine (r05_Letter.calls (rd l0_1 x4_1) t240 _ A14.out).mono ?_);rintro e w' ⟨rfl,⟨nd,rfl⟩⟩;refine ⟨_,rfl,?_⟩))
         go_roundg k1
         case measure=>have:=HK1.out;omega
         case rel=>exact ⟨(x3_1++t240),(wrap64 (x4_1+1)),(by first | rfl | (simp;done) | (simp [*];done)),(by first | rfl | (simp;done) | (simp [*];done)),H',⟨by have:=HK1.out;omega⟩,⟨zK BK236.out⟩,⟨zC HB.out GE236.out⟩⟩
        ·rw [if_neg c15] at H
         exact absurd H (by simp)
       ·rw [if_neg c13] at H
        exact absurd H (by simp)
     ·rw [if_neg c6] at H
      have c6b0:decide (x4_1<(l0_1.length:Int))=false:=decide_eq_false c6
      clear c6
      by_cases c17:x3_1.size+2≤9223372036854775807
      ·rw [if_pos c17] at H
       try have c17b2:(9223372036854775807<x3_1.size+2)=False:=eq_false (Nat.not_lt.2 c17)
       replace H:=Option.bind_eq_some_iff.mp H
       obtain ⟨t241,A180,H⟩:=H
       have A18:=aM A180
       clear A180
       by_cases c19:(x3_1++(⟨#[41,32]⟩:ByteArray)).size+t241.size≤9223372036854775807
       ·rw [if_pos c19] at H
        try have c19b2:(9223372036854775807<(x3_1++(⟨#[41,32]⟩:ByteArray)).size+t241.size)=False:=eq_false (Nat.not_lt.2 c19)
        try (have c19b3:=c19b2;simp only [ByteArray.size_append,show ((⟨#[41,32]⟩:ByteArray)).size=2 from rfl] at c19b3)
        by_cases c20:((x3_1++(⟨#[41,32]⟩:ByteArray))++t241).size+3≤9223372036854775807
        ·rw [if_pos c20] at H
         try have c20b2:(9223372036854775807<((x3_1++(⟨#[41,32]⟩:ByteArray))++t241).size+3)=False:=eq_false (Nat.not_lt.2 c20)
         try (have c20b3:=c20b2;simp only [ByteArray.size_append,show ((⟨#[41,32]⟩:ByteArray)).size=2 from rfl] at c20b3)
         have H':=aM H
         clear H
         have hcz21_1:wr.cell? ⟨gb236,1,none⟩=some (.slice A0_1 l0_1.length c0_1):=(blk_cell BK236.out 1).trans rfl
         have hcz21_2:wr.cell? ⟨gb236,2,none⟩=some (.int .i64 a0_2):=(blk_cell BK236.out 2).trans rfl
         go_wp2_with (first | ((with_reducible refine gate_callee (f:=35) rfl ?_);refine goesL_ (some 34) rfl rfl Try.func35 (by kernel_rfl) rfl #[.int .i64 a0_2] rfl zA ?_;(with_reducible refine (r05_Letter.calls a0_2 t241 _ A18.out).mono ?_);rintro e w' ⟨rfl,⟨nd,rfl⟩⟩;refine ⟨_,rfl,?_⟩))
         go_loopg [3,5] k1 (fun kq v3 v5 w'=>∃ (x3_2:ByteArray) (x5_2:Int),v3=.string x3_2∧v5=.int .i64 x5_2∧Aside0 (r07_Func.l1 kq x3_2 x5_2 a0_0 l0_1 a0_2 l0_3 a0_4=some r)∧Aside0 (kq≤k1)∧Aside0 (w'.heap[gb236]?=some (.cells #[.string a0_0,(.slice A0_1 l0_1.length c0_1),.int .i64 a0_2,(.slice A0_3 l0_3.length c0_3),.int .i64 a0_4] 34 (0,0)))∧Aside0 (Below w.heap.size w w'))
         case atStart=>exact ⟨(((x3_1++(⟨#[41,32]⟩:ByteArray))++t241)++(⟨#[32,123,10]⟩:ByteArray)),(0),(by first | rfl | (simp;done) | (simp [*];done)),(by first | rfl | (simp;done) | (simp [*];done)),H',⟨Nat.le_refl _⟩,⟨zK BK236.out⟩,⟨zC HB.out GE236.out⟩⟩
         case round=>
          clear H' c6b0 c17 c17b2 c19 c19b2 c20 c20b2 hcz21_1 hcz21_2
          obtain ⟨x3_2,x5_2,rfl,rfl,HA,HK2,BK236,HB⟩:=hrel
          cases gk with
          | zero=>exact absurd HA.out (by simp [r07_Func.l1])
          | succ k2=>
           have H:=HA.out
           clear HA
           simp only [r07_Func.l1] at H
           by_cases c22:x5_2<(l0_3.length:Int)
           ·rw [if_pos c22] at H
            have c22b0:decide (x5_2<(l0_3.length:Int))=true:=decide_eq_true c22
            clear c22
            by_cases c23:x3_2.size+1≤9223372036854775807
            ·rw [if_pos c23] at H
             try have c23b2:(9223372036854775807<x3_2.size+1)=False:=eq_false (Nat.not_lt.2 c23)
             replace H:=Option.bind_eq_some_iff.mp H
             obtain ⟨t242,A240,H⟩:=H
             have A24:=aM A240
             clear A240
             by_cases c25:(x3_2++(⟨#[98]⟩:ByteArray)).size+t242.size≤9223372036854775807
             ·rw [if_pos c25] at H
              try have c25b2:(9223372036854775807<(x3_2++(⟨#[98]⟩:ByteArray)).size+t242.size)=False:=eq_false (Nat.not_lt.2 c25)
              try (have c25b3:=c25b2;simp only [ByteArray.size_append,show ((⟨#[98]⟩:ByteArray)).size=1 from rfl] at c25b3)
              by_cases c26:((x3_2++(⟨#[98]⟩:ByteArray))++t242).size+2≤9223372036854775807
              ·rw [if_pos c26] at H
               try have c26b2:(9223372036854775807<((x3_2++(⟨#[98]⟩:ByteArray))++t242).size+2)=False:=eq_false (Nat.not_lt.2 c26)
               try (have c26b3:=c26b2;simp only [ByteArray.size_append,show ((⟨#[98]⟩:ByteArray)).size=1 from rfl] at c26b3)
               have H':=aM H
               clear H
               have hcz27_3:wr.cell? ⟨gb236,3,none⟩=some (.slice A0_3 l0_3.length c0_3):=(blk_cell BK236.out 3).trans rfl
               go_wp2_with (first | ((with_reducible refine gate_callee (f:=36) rfl ?_);refine goesL_ (some 47) rfl rfl Try.func36 (by kernel_rfl) rfl #[.int .i64 x5_2] rfl zA ?_;(with_reducible refine (r07_small.calls k2 x5_2 t242 _ A24.out).mono ?_);rintro e w28 ⟨rfl,hb⟩;refine ⟨_,rfl,?_⟩;have n0_:=aM (blk_below (g:=gb236) (o:=.cells #[.string a0_0,.slice A0_1 l0_1.length c0_1,.int .i64 a0_2,.slice A0_3 l0_3.length c0_3,.int .i64 a0_4] 34 (0,0)) (zK BK236.out) hb);have n1_:=aM (below_step (zC HB.out GE236.out) hb);clear BK236;clear HB;have BK236:=n0_;have HB:=n1_;clear n0_ n1_;(try clear hb);(try clear hb2);(try clear hk);(try clear hi)))
               go_loopg [3,6] k2 (fun kq v3 v6 w'=>∃ (x3_3:ByteArray) (x6_3:Int),v3=.string x3_3∧v6=.int .i64 x6_3∧Aside0 (r07_Func.l2 kq x3_3 x5_2 x6_3 a0_0 l0_1 a0_2 l0_3 a0_4=some r)∧Aside0 (kq≤k2)∧Aside0 (w'.heap[gb236]?=some (.cells #[.string a0_0,(.slice A0_1 l0_1.length c0_1),.int .i64 a0_2,(.slice A0_3 l0_3.length c0_3),.int .i64 a0_4] 34 (0,0)))∧Aside0 (Below w.heap.size w w'))
               case atStart=>exact ⟨(((x3_2++(⟨#[98]⟩:ByteArray))++t242)++(⟨#[58,10]⟩:ByteArray)),(0),(by first | rfl | (simp;done) | (simp [*];done)),(by first | rfl | (simp;done) | (simp [*];done)),H',⟨Nat.le_refl _⟩,⟨zK BK236.out⟩,⟨zC HB.out GE236.out⟩⟩
               case round=>
                clear H' c22b0 c23 c23b2 c25 c25b2 c26 c26b2 hcz27_3
                obtain ⟨x3_3,x6_3,rfl,rfl,HA,HK3,BK236,HB⟩:=hrel
                cases gk with
                | zero=>exact absurd HA.out (by simp [r07_Func.l2])
                | succ k3=>
                 have H:=HA.out
                 clear HA
                 simp only [r07_Func.l2] at H
                 by_cases c29:0≤x5_2
                 ·rw [if_pos c29] at H
                  have c29b0:decide (0≤x5_2)=true:=decide_eq_true c29
                  clear c29
                  by_cases c30:x5_2<(l0_3.length:Int)
                  ·rw [if_pos c30] at H
                   have c30b0:decide (x5_2<(l0_3.length:Int))=true:=decide_eq_true c30
                   clear c30
                   by_cases c31:x6_3<((rd_L4 l0_3 x5_2).length:Int)
                   ·rw [if_pos c31] at H
                    have c31b0:decide (x6_3<((rd_L4 l0_3 x5_2).length:Int))=true:=decide_eq_true c31
                    clear c31
                    by_cases c32:x3_3.size+2≤9223372036854775807
                    ·rw [if_pos c32] at H
                     try have c32b2:(9223372036854775807<x3_3.size+2)=False:=eq_false (Nat.not_lt.2 c32)
                     by_cases c33:0≤x6_3
                     ·rw [if_pos c33] at H
                      have c33b0:decide (0≤x6_3)=true:=decide_eq_true c33
                      clear c33
                      replace H:=Option.bind_eq_some_iff.mp H
                      obtain ⟨t246,A340,H⟩:=H
                      have A34:=aM A340
                      clear A340
                      by_cases c35:(x3_3++(⟨#[32,32]⟩:ByteArray)).size+t246.size≤9223372036854775807
                      ·rw [if_pos c35] at H
                       try have c35b2:(9223372036854775807<(x3_3++(⟨#[32,32]⟩:ByteArray)).size+t246.size)=False:=eq_false (Nat.not_lt.2 c35)
                       try (have c35b3:=c35b2;simp only [ByteArray.size_append,show ((⟨#[32,32]⟩:ByteArray)).size=2 from rfl] at c35b3)
                       by_cases c36:((x3_3++(⟨#[32,32]⟩:ByteArray))++t246).size+1≤9223372036854775807
                       ·rw [if_pos c36] at H
                        try have c36b2:(9223372036854775807<((x3_3++(⟨#[32,32]⟩:ByteArray))++t246).size+1)=False:=eq_false (Nat.not_lt.2 c36)
                        try (have c36b3:=c36b2;simp only [ByteArray.size_append,show ((⟨#[32,32]⟩:ByteArray)).size=2 from rfl] at c36b3)
                        have H':=aM H
                        clear H
                        have hcz37_3:wr.cell? ⟨gb236,3,none⟩=some (.slice A0_3 l0_3.length c0_3):=(blk_cell BK236.out 3).trans rfl
                        have p243:0≤(x5_2:Int):=of_decide_eq_true zS
                        have q243:x5_2<(l0_3.length:Int):=of_decide_eq_true zS
                        obtain ⟨ad243,A243_0,c243_0,e243,hx243_0,hl243_0,hi243_0⟩:=at_L4 HR0_3.out x5_2 p243 q243
                        cases e243
                        replace hx243_0:=(HB.out.cell (World.block_lt_of_cell? w _ hx243_0)).trans hx243_0
                        have HR243_0:=aM hi243_0
                        clear hi243_0 hl243_0
                        replace p243:=eq_true p243
                        replace q243:=eq_true q243
                        have p244:0≤(x5_2:Int):=of_decide_eq_true zS
                        have q244:x5_2<(l0_3.length:Int):=of_decide_eq_true zS
                        obtain ⟨ad244,A244_0,c244_0,e244,hx244_0,hl244_0,hi244_0⟩:=at_L4 HR0_3.out x5_2 p244 q244
                        obtain rfl:ad243=ad244:=(by injection e244)
                        replace hx244_0:=(HB.out.cell (World.block_lt_of_cell? w _ hx244_0)).trans hx244_0
                        have HR244_0:=aM hi244_0
                        have HC244_0:=aM hl244_0
                        clear hi244_0 hl244_0
                        replace p244:=eq_true p244
                        replace q244:=eq_true q244
                        have ea_:=Option.some.inj (hx243_0.symm.trans hx244_0)
                        injection ea_ with ea_ en_ ec_
                        subst ea_
                        subst ec_
                        clear en_
                        have p245:0≤(x6_3:Int):=of_decide_eq_true zS
                        have q245:x6_3<((rd_L4 l0_3 x5_2).length:Int):=of_decide_eq_true zS
                        obtain ⟨ad245,A245_4,c245_4,A245_5,c245_5,e245,hx245_0,hx245_1,hx245_2,hx245_3,hx245_4,hx245_5,hx245_6,hx245_7,hl245_4,hi245_4,hl245_5,hi245_5⟩:=at_T39 HR244_0.out x6_3 p245 q245
                        cases e245
                        replace hx245_0:=(HB.out.cell (World.block_lt_of_cell? w _ hx245_0)).trans hx245_0
                        replace hx245_1:=(HB.out.cell (World.block_lt_of_cell? w _ hx245_1)).trans hx245_1
                        replace hx245_2:=(HB.out.cell (World.block_lt_of_cell? w _ hx245_2)).trans hx245_2
                        replace hx245_3:=(HB.out.cell (World.block_lt_of_cell? w _ hx245_3)).trans hx245_3
                        replace hx245_4:=(HB.out.cell (World.block_lt_of_cell? w _ hx245_4)).trans hx245_4
                        replace hx245_5:=(HB.out.cell (World.block_lt_of_cell? w _ hx245_5)).trans hx245_5
                        replace hx245_6:=(HB.out.cell (World.block_lt_of_cell? w _ hx245_6)).trans hx245_6
                        replace hx245_7:=(HB.out.cell (World.block_lt_of_cell? w _ hx245_7)).trans hx245_7
                        have HR245_4:=aM hi245_4
                        have HC245_4:=aM hl245_4
                        clear hi245_4 hl245_4
                        have HR245_5:=aM hi245_5
                        have HC245_5:=aM hl245_5
                        clear hi245_5 hl245_5
                        replace p245:=eq_true p245
                        replace q245:=eq_true q245
                        go_wp2_with (first | ((with_reducible refine gate_callee (f:=14) rfl ?_);refine goesL_ (some 70) rfl rfl Try.func14 (by kernel_rfl) rfl #[.agg #[.int .i64 ((rd_T39 (rd_L4 l0_3 x5_2) x6_3).f0),.int .i64 ((rd_T39 (rd_L4 l0_3 x5_2) x6_3).f1),.int .i64 ((rd_T39 (rd_L4 l0_3 x5_2) x6_3).f2),.int .i64 ((rd_T39 (rd_L4 l0_3 x5_2) x6_3).f3),.slice A245_4 ((rd_T39 (rd_L4 l0_3 x5_2) x6_3).f4).length c245_4,.slice A245_5 ((rd_T39 (rd_L4 l0_3 x5_2) x6_3).f5).length c245_5,.string ((rd_T39 (rd_L4 l0_3 x5_2) x6_3).f6),.int .i64 ((rd_T39 (rd_L4 l0_3 x5_2) x6_3).f7)]] rfl zA ?_;(with_reducible refine (r07_Instr.calls k3 ((rd_T39 (rd_L4 l0_3 x5_2) x6_3).f0) ((rd_T39 (rd_L4 l0_3 x5_2) x6_3).f1) ((rd_T39 (rd_L4 l0_3 x5_2) x6_3).f2) ((rd_T39 (rd_L4 l0_3 x5_2) x6_3).f3) _ _ ((rd_T39 (rd_L4 l0_3 x5_2) x6_3).f4) _ _ ((rd_T39 (rd_L4 l0_3 x5_2) x6_3).f5) ((rd_T39 (rd_L4 l0_3 x5_2) x6_3).f6) ((rd_T39 (rd_L4 l0_3 x5_2) x6_3).f7) t246 _ ?side1 ?side2 ?side3 ?side4 A34.out).mono ?_);(case side1=>repeat (first | exact (Kd.C_below HR245_4.out HB.out) | (with_reducible refine Kd.C_alloc ?_ _) | (with_reducible refine Kd.C_drewN ?_ _) | (with_reducible refine Kd.C_drew ?_)));(case side2=>exact HC245_4.out);(case side3=>repeat (first | exact (Kd.C_below HR245_5.out HB.out) | (with_reducible refine Kd.C_alloc ?_ _) | (with_reducible refine Kd.C_drewN ?_ _) | (with_reducible refine Kd.C_drew ?_)));(case side4=>exact HC245_5.out);rintro e w38 ⟨rfl,hb⟩;refine ⟨_,rfl,?_⟩;have n0_:=aM (blk_below (g:=gb236) (o:=.cells #[.string a0_0,.slice A0_1 l0_1.length c0_1,.int .i64 a0_2,.slice (some ad243) l0_3.length c0_3,.int .i64 a0_4] 34 (0,0)) (zK BK236.out) hb);have n1_:=aM (below_step (zC HB.out GE236.out) hb);clear BK236;clear HB;have BK236:=n0_;have HB:=n1_;clear n0_ n1_;(try clear hb);(try clear hb2);(try clear hk);(try clear hi)))
                        go_roundg k3
                        case measure=>have:=HK1.out;have:=HK2.out;have:=HK3.out;omega
                        case rel=>exact ⟨(((x3_3++(⟨#[32,32]⟩:ByteArray))++t246)++(⟨#[10]⟩:ByteArray)),(wrap64 (x6_3+1)),(by first | rfl | (simp;done) | (simp [*];done)),(by first | rfl | (simp;done) | (simp [*];done)),H',⟨by have:=HK1.out;have:=HK2.out;have:=HK3.out;omega⟩,⟨zK BK236.out⟩,⟨zC HB.out GE236.out⟩⟩
                       ·rw [if_neg c36] at H
                        exact absurd H (by simp)
                      ·rw [if_neg c35] at H
                       exact absurd H (by simp)
                     ·rw [if_neg c33] at H
                      exact absurd H (by simp)
                    ·rw [if_neg c32] at H
                     exact absurd H (by simp)
                   ·rw [if_neg c31] at H
                    have c31b0:decide (x6_3<((rd_L4 l0_3 x5_2).length:Int))=false:=decide_eq_false c31
                    clear c31
                    have H':=aM H
                    clear H
                    have hcz39_3:wr.cell? ⟨gb236,3,none⟩=some (.slice A0_3 l0_3.length c0_3):=(blk_cell BK236.out 3).trans rfl
                    have p243:0≤(x5_2:Int):=of_decide_eq_true zS
                    have q243:x5_2<(l0_3.length:Int):=of_decide_eq_true zS
                    obtain ⟨ad243,A243_0,c243_0,e243,hx243_0,hl243_0,hi243_0⟩:=at_L4 HR0_3.out x5_2 p243 q243
                    cases e243
                    replace hx243_0:=(HB.out.cell (World.block_lt_of_cell? w _ hx243_0)).trans hx243_0
                    have HR243_0:=aM hi243_0
                    clear hi243_0 hl243_0
                    replace p243:=eq_true p243
                    replace q243:=eq_true q243
                    go_wp2
                    go_roundg k3
                    case measure=>have:=HK1.out;have:=HK2.out;have:=HK3.out;omega
                    case rel=>exact ⟨(x3_3),(wrap64 (x5_2+1)),(by first | rfl | (simp;done) | (simp [*];done)),(by first | rfl | (simp;done) | (simp [*];done)),H',⟨by have:=HK1.out;have:=HK2.out;have:=HK3.out;omega⟩,⟨zK BK236.out⟩,⟨zC HB.out GE236.out⟩⟩
                  ·rw [if_neg c30] at H
                   exact absurd H (by simp)
                 ·rw [if_neg c29] at H
                  exact absurd H (by simp)
              ·rw [if_neg c26] at H
               exact absurd H (by simp)
             ·rw [if_neg c25] at H
              exact absurd H (by simp)
            ·rw [if_neg c23] at H
             exact absurd H (by simp)
           ·rw [if_neg c22] at H
            have c22b0:decide (x5_2<(l0_3.length:Int))=false:=decide_eq_false c22
            clear c22
            by_cases c40:x3_2.size+2≤9223372036854775807
            ·rw [if_pos c40] at H
             try have c40b2:(9223372036854775807<x3_2.size+2)=False:=eq_false (Nat.not_lt.2 c40)
             obtain rfl:=Option.some.inj H
             have hcz41_3:wr.cell? ⟨gb236,3,none⟩=some (.slice A0_3 l0_3.length c0_3):=(blk_cell BK236.out 3).trans rfl
             go_wp2
             go_ret
             exact ⟨zF,zC HB.out GE236.out⟩
            ·rw [if_neg c40] at H
             exact absurd H (by simp)
        ·rw [if_neg c20] at H
         exact absurd H (by simp)
       ·rw [if_neg c19] at H
        exact absurd H (by simp)
      ·rw [if_neg c17] at H
       exact absurd H (by simp)
  ·rw [if_neg c3] at H
   exact absurd H (by simp)
 ·rw [if_neg c2] at H
  exact absurd H (by simp)
def r07_Text.l0:Nat→ByteArray→Int→List (S34)→Option (ByteArray)
 | 0,_,_,_=>none
 | k+1,x3,x4,x248000=>if x4<(x248000.length:Int) then (if 0≤x4 then ((r07_Func.f k ((rd_T34 x248000 x4).f0) ((rd_T34 x248000 x4).f1) ((rd_T34 x248000 x4).f2) ((rd_T34 x248000 x4).f3) ((rd_T34 x248000 x4).f4)).bind fun t249=>(if x3.size+t249.size≤9223372036854775807 then (r07_Text.l0 k (x3++t249) (wrap64 (x4+1)) x248000) else (none))) else (none)) else (some x3)
def r07_Text.f (k:Nat) (l0_0:List (S34)):Option (ByteArray):=r07_Text.l0 k (⟨#[]⟩:ByteArray) 0 l0_0
theorem r07_Text.calls (k:Nat) (A0_0:Option Addr) (c0_0:Nat) (l0_0:List (S34)) (r:ByteArray) (w:World) (hr0_0:Kd.C k34 w A0_0 l0_0.length l0_0) (hc0_0:l0_0.length≤c0_0) (h:r07_Text.f k l0_0=some r):
  Calls Try.prog 16 #[.agg #[.slice A0_0 l0_0.length c0_0]] w fun e w'=>e=.returned (.string r)∧Below w.heap.size w w':=by
 have HR0_0:=aM hr0_0
 clear hr0_0 hc0_0
 have HB:=aM (Below.refl w.heap.size w)
 have H:(r07_Text.l0 k (⟨#[]⟩:ByteArray) 0 l0_0)=some r:=h
 clear h
 have H':=aM H
 clear H
 go_enter Try.func16,Try.ntmps16
 go_wp2_with (first | ((with_reducible refine gate_dst (N:=1) rfl ?_);refine box_event ?hg (N:=1) ?hd (cs:=#[.slice A0_0 l0_0.length c0_0]) (t:=24) ?hr ?_;(case hd=>rfl);(case hg=>rfl);(case hr=>first | (go_simp;done) | (go_simp;rfl));intro gb247 hg w2 hbox hb;have n0_:=aM (below_step (zB HB.out) hb);have n1_:=aM (hbox);have n2_:=aM ((by rw [hg];exact (below_size (zB HB.out)):w.heap.size≤gb247));have n3_:=aM ((by rw [hg];exact (below_size (zB HB.out)):w.heap.size≤gb247));clear HB;have HB:=n0_;have BK247:=n1_;have GE247:=n3_;clear n0_ n1_ n2_ n3_;clear hb hbox hg))
 go_loopg [3,4] k (fun kq v3 v4 w'=>∃ (x3_1:ByteArray) (x4_1:Int),v3=.string x3_1∧v4=.int .i64 x4_1∧Aside0 (r07_Text.l0 kq x3_1 x4_1 l0_0=some r)∧Aside0 (kq≤k)∧Aside0 (w'.heap[gb247]?=some (.cells #[(.slice A0_0 l0_0.length c0_0)] 24 (0,0)))∧Aside0 (Below w.heap.size w w'))
 case atStart=>exact ⟨((⟨#[]⟩:ByteArray)),(0),(by first | rfl | (simp;done) | (simp [*];done)),(by first | rfl | (simp;done) | (simp [*];done)),H',⟨Nat.le_refl _⟩,⟨zK BK247.out⟩,⟨zC HB.out GE247.out⟩⟩
 case round=>
  clear H'
  obtain ⟨x3_1,x4_1,rfl,rfl,HA,HK1,BK247,HB⟩:=hrel
  cases gk with
  | zero=>exact absurd HA.out (by simp [r07_Text.l0])
  | succ k1=>
   have H:=HA.out
   clear HA
   simp only [r07_Text.l0] at H
   by_cases c3:x4_1<(l0_0.length:Int)
   ·rw [if_pos c3] at H
    have c3b0:decide (x4_1<(l0_0.length:Int))=true:=decide_eq_true c3
    clear c3
    by_cases c4:0≤x4_1
    ·rw [if_pos c4] at H
     have c4b0:decide (0≤x4_1)=true:=decide_eq_true c4
     clear c4
     replace H:=Option.bind_eq_some_iff.mp H
     obtain ⟨t249,A50,H⟩:=H
     have A5:=aM A50
     clear A50
     by_cases c6:x3_1.size+t249.size≤9223372036854775807
     ·rw [if_pos c6] at H
      try have c6b2:(9223372036854775807<x3_1.size+t249.size)=False:=eq_false (Nat.not_lt.2 c6)
      have H':=aM H
      clear H
      have hcz7_0:wr.cell? ⟨gb247,0,none⟩=some (.slice A0_0 l0_0.length c0_0):=(blk_cell BK247.out 0).trans rfl
      have p248:0≤(x4_1:Int):=of_decide_eq_true zS
      have q248:x4_1<(l0_0.length:Int):=of_decide_eq_true zS
      obtain ⟨ad248,A248_1,c248_1,A248_3,c248_3,e248,hx248_0,hx248_1,hx248_2,hx248_3,hx248_4,hl248_1,hi248_1,hl248_3,hi248_3⟩:=at_T34 HR0_0.out x4_1 p248 q248
      cases e248
      replace hx248_0:=(HB.out.cell (World.block_lt_of_cell? w _ hx248_0)).trans hx248_0
      replace hx248_1:=(HB.out.cell (World.block_lt_of_cell? w _ hx248_1)).trans hx248_1
      replace hx248_2:=(HB.out.cell (World.block_lt_of_cell? w _ hx248_2)).trans hx248_2
      replace hx248_3:=(HB.out.cell (World.block_lt_of_cell? w _ hx248_3)).trans hx248_3
      replace hx248_4:=(HB.out.cell (World.block_lt_of_cell? w _ hx248_4)).trans hx248_4
      have HR248_1:=aM hi248_1
      have HC248_1:=aM hl248_1
      clear hi248_1 hl248_1
      have HR248_3:=aM hi248_3
      have HC248_3:=aM hl248_3
      clear hi248_3 hl248_3
      replace p248:=eq_true p248
      replace q248:=eq_true q248
      go_wp2_with (first | ((with_reducible refine gate_callee (f:=12) rfl ?_);refine goesL_ (some 18) rfl rfl Try.func12 (by kernel_rfl) rfl #[.agg #[.string ((rd_T34 l0_0 x4_1).f0),.slice A248_1 ((rd_T34 l0_0 x4_1).f1).length c248_1,.int .i64 ((rd_T34 l0_0 x4_1).f2),.slice A248_3 ((rd_T34 l0_0 x4_1).f3).length c248_3,.int .i64 ((rd_T34 l0_0 x4_1).f4)]] rfl zA ?_;(with_reducible refine (r07_Func.calls k1 ((rd_T34 l0_0 x4_1).f0) _ _ ((rd_T34 l0_0 x4_1).f1) ((rd_T34 l0_0 x4_1).f2) _ _ ((rd_T34 l0_0 x4_1).f3) ((rd_T34 l0_0 x4_1).f4) t249 _ ?side1 ?side2 ?side3 ?side4 A5.out).mono ?_);(case side1=>repeat (first | exact (Kd.C_below HR248_1.out HB.out) | (with_reducible refine Kd.C_alloc ?_ _) | (with_reducible refine Kd.C_drewN ?_ _) | (with_reducible refine Kd.C_drew ?_)));(case side2=>exact HC248_1.out);(case side3=>repeat (first | exact (Kd.C_below HR248_3.out HB.out) | (with_reducible refine Kd.C_alloc ?_ _) | (with_reducible refine Kd.C_drewN ?_ _) | (with_reducible refine Kd.C_drew ?_)));(case side4=>exact HC248_3.out);rintro e w8 ⟨rfl,hb⟩;refine ⟨_,rfl,?_⟩;have n0_:=aM (blk_below (g:=gb247) (o:=.cells #[.slice (some ad248) l0_0.length c0_0] 24 (0,0)) (zK BK247.out) hb);have n1_:=aM (below_step (zC HB.out GE247.out) hb);clear BK247;clear HB;have BK247:=n0_;have HB:=n1_;clear n0_ n1_;(try clear hb);(try clear hb2);(try clear hk);(try clear hi)))
      go_roundg k1
      case measure=>have:=HK1.out;omega
      case rel=>exact ⟨(x3_1++t249),(wrap64 (x4_1+1)),(by first | rfl | (simp;done) | (simp [*];done)),(by first | rfl | (simp;done) | (simp [*];done)),H',⟨by have:=HK1.out;omega⟩,⟨zK BK247.out⟩,⟨zC HB.out GE247.out⟩⟩
     ·rw [if_neg c6] at H
      exact absurd H (by simp)
    ·rw [if_neg c4] at H
     exact absurd H (by simp)
   ·rw [if_neg c3] at H
    have c3b0:decide (x4_1<(l0_0.length:Int))=false:=decide_eq_false c3
    clear c3
    obtain rfl:=Option.some.inj H
    have hcz9_0:wr.cell? ⟨gb247,0,none⟩=some (.slice A0_0 l0_0.length c0_0):=(blk_cell BK247.out 0).trans rfl
    go_wp2
    go_ret
    exact ⟨zF,zC HB.out GE247.out⟩
end Go.Proofs.Ytkjdblbgmomieaa.PSh
end
section
namespace Go.Proofs.Ytkjdblbgmomieaa.PSh
set_option maxHeartbeats 4000000
set_option maxRecDepth 100000
open Go.RowKit Go.Proofs.YtkjdblbgmomieaaW.PrintWords Go.Proofs.YtkjdblbgmomieaaW.PrintLast Go.Proofs.YtkjdblbgmomieaaW.PrintMore Go.Proofs.Ytkjdblbgmomieaa.Str
set_option linter.unusedVariables false
set_option linter.unusedSimpArgs false
def smallS:ByteArray:=⟨#[102,117,110,99,32,109,97,105,110,40,105,32,112,41,32,105,32,123,32,98,48,58,32,37,50,32,61,32,99,111,110,115,116,32,45,53,32,37,51,32,61,32,110,101,119,32,105,112,32,115,116,111,114,101,46,112,32,37,51,32,49,32,37,49,32,98,114,32,98,49,32,98,49,58,32,37,52,32,61,32,112,104,105,46,105,32,98,48,32,37,50,32,98,49,32,37,53,32,37,53,32,61,32,97,100,100,32,37,52,32,37,48,32,37,54,32,61,32,99,97,108,108,46,105,32,64,55,32,102,32,37,51,32,105,102,32,37,54,32,98,49,32,98,50,32,98,50,58,32,111,117,116,32,37,53,32,114,101,116,32,37,53,32,125,32,102,117,110,99,32,102,40,112,41,32,105,32,123,32,98,48,58,32,37,49,32,61,32,108,111,97,100,46,105,32,37,48,32,48,32,114,101,116,32,37,49,32,125]⟩
def l06_Small.f:Option ByteArray:=some smallS
theorem l06_Small.calls (r:ByteArray) (w:World) (h:l06_Small.f=some r):
    Calls Try.prog 29 #[] w fun e w'=>e=.returned (.string r)∧Drawn0 w w':=by
  obtain rfl:=Option.some.inj h
  go_enter Try.func29,Try.ntmps29
  go_wp2
  go_ret
  exact ⟨rfl,Drawn0.refl _⟩
def wkP:List S34:=((r06_Text.f 400 smallS).getD ([],1,1)).1
def wkW:ByteArray:=⟨#[115,116,111,114,101,46,112,32,37,51,32,50,32,37,52]⟩
def wkT:ByteArray:=(show_Text.f wkP).getD ⟨#[]⟩
def wkF:S34:=rd_T34 wkP 1
def wkFT:ByteArray:=(show_Func.f wkF.f0 wkF.f1 wkF.f2 wkF.f3 wkF.f4).getD ⟨#[]⟩
theorem wk_len:wkP.length=2:=by kernel_rfl
theorem wk_p:r06_Text.f 400 smallS=some (wkP,0,0):=by kernel_rfl
theorem wk_i:show_Instr.f 14 (-1) 2 0 [3,4] [] ⟨#[]⟩ 0=some wkW:=by kernel_rfl
theorem wk_c1:show_Check.f 60 14 (-1) 2 0 [3,4] [] ⟨#[]⟩ 0=some 0:=by kernel_rfl
theorem wk_c2:show_Check.f 60 8 0 0 0 [] [] ⟨#[]⟩ 0=some 0:=by kernel_rfl
theorem wk_c3:show_Check.f 60 8 (-1) 0 0 [] [] ⟨#[]⟩ 0=some 8:=by kernel_rfl
theorem wk_w:show_Whole.f 60 wkP=some (0,0):=by kernel_rfl
theorem wk_t:show_Text.f wkP=some wkT:=by kernel_rfl
theorem wk_rt:r07_Text.f 60 wkP=some wkT:=by kernel_rfl
theorem wk_f:show_Func.f wkF.f0 wkF.f1 wkF.f2 wkF.f3 wkF.f4=some wkFT:=by kernel_rfl
theorem wk_fs:decide (30<(wkFT.size:Int))=true:=by kernel_rfl
end Go.Proofs.Ytkjdblbgmomieaa.PSh
end
