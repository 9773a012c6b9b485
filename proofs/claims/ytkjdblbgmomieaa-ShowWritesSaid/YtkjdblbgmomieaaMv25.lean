import Derived.Test.YtkjdblbgmomieaaMv2
import Derived.Test.YtkjdblbgmomieaaMv6
import Derived.Test.YtkjdblbgmomieaaMv7
import Derived.Test.YtkjdblbgmomieaaMv3
section
namespace Go.Proofs.Ytkjdblbgmomieaa.PSh
set_option maxHeartbeats 8000000
set_option maxRecDepth 100000
open Go.RowKit Go.Proofs.YtkjdblbgmomieaaW.PrintWords Go.Proofs.YtkjdblbgmomieaaW.PrintLast Go.Proofs.YtkjdblbgmomieaaW.PrintMore Go.Proofs.Ytkjdblbgmomieaa.Zip
attribute [local go_sem] max2_int min2_int max_two min_two max_three min_three max_four min_four   -- for this text's walks alone
set_option linter.unusedVariables false
set_option linter.unusedSimpArgs false
mutual
def r07_Instr.j0:Nat→ByteArray→Int→Int→Int→Int→List Int→List Int→ByteArray→Int→Option (ByteArray)
 | 0,_,_,_,_,_,_,_,_,_=>none
 | k+1,x3,x218000,x218001,x218002,x218003,x218004,x218005,x218006,x218007=>if x218000=1 then (r07_Instr.j1 k x3 x218000 (x218000==1) x218000 x218001 x218002 x218003 x218004 x218005 x218006 x218007) else (if x218000=23 then (r07_Instr.j1 k x3 x218000 (x218000==23) x218000 x218001 x218002 x218003 x218004 x218005 x218006 x218007) else (r07_Instr.j1 k x3 x218000 (x218000==29) x218000 x218001 x218002 x218003 x218004 x218005 x218006 x218007))
def r07_Instr.j1:Nat→ByteArray→Int→Bool→Int→Int→Int→Int→List Int→List Int→ByteArray→Int→Option (ByteArray)
 | 0,_,_,_,_,_,_,_,_,_,_,_=>none
 | k+1,x3,x19,x20,x218000,x218001,x218002,x218003,x218004,x218005,x218006,x218007=>if x20=true then (if x3.size+1≤9223372036854775807 then ((r01_Print.f k x218002).bind fun t221=>(if (x3++(⟨#[32]⟩:ByteArray)).size+t221.size≤9223372036854775807 then (some ((x3++(⟨#[32]⟩:ByteArray))++t221)) else (none))) else (none)) else (if x19=10 then (if x3.size+1≤9223372036854775807 then (if (x3++(⟨#[32]⟩:ByteArray)).size+x218006.size≤9223372036854775807 then (some ((x3++(⟨#[32]⟩:ByteArray))++x218006)) else (none)) else (none)) else (if x19=11 then (r07_Instr.j2 k x3 x19 (x19==11) x218000 x218001 x218002 x218003 x218004 x218005 x218006 x218007) else (if x19=12 then (r07_Instr.j2 k x3 x19 (x19==12) x218000 x218001 x218002 x218003 x218004 x218005 x218006 x218007) else (if x19=15 then (r07_Instr.j2 k x3 x19 (x19==15) x218000 x218001 x218002 x218003 x218004 x218005 x218006 x218007) else (if x19=24 then (r07_Instr.j2 k x3 x19 (x19==24) x218000 x218001 x218002 x218003 x218004 x218005 x218006 x218007) else (if x19=13 then (r07_Instr.j2 k x3 x19 (x19==13) x218000 x218001 x218002 x218003 x218004 x218005 x218006 x218007) else (r07_Instr.j2 k x3 x19 (x19==14) x218000 x218001 x218002 x218003 x218004 x218005 x218006 x218007)))))))
def r07_Instr.j2:Nat→ByteArray→Int→Bool→Int→Int→Int→Int→List Int→List Int→ByteArray→Int→Option (ByteArray)
 | 0,_,_,_,_,_,_,_,_,_,_,_=>none
 | k+1,x3,x19,x37,x218000,x218001,x218002,x218003,x218004,x218005,x218006,x218007=>if x37=true then (if x3.size+2≤9223372036854775807 then (if 0<(x218004.length:Int) then ((r07_small.f k (rd x218004 0)).bind fun t223=>(if (x3++(⟨#[32,37]⟩:ByteArray)).size+t223.size≤9223372036854775807 then (if ((x3++(⟨#[32,37]⟩:ByteArray))++t223).size+1≤9223372036854775807 then ((r01_Print.f k x218002).bind fun t224=>(if (((x3++(⟨#[32,37]⟩:ByteArray))++t223)++(⟨#[32]⟩:ByteArray)).size+t224.size≤9223372036854775807 then ((r07_args.f k x218004 1).bind fun t225=>(if ((((x3++(⟨#[32,37]⟩:ByteArray))++t223)++(⟨#[32]⟩:ByteArray))++t224).size+t225.size≤9223372036854775807 then (some (((((x3++(⟨#[32,37]⟩:ByteArray))++t223)++(⟨#[32]⟩:ByteArray))++t224)++t225)) else (none))) else (none))) else (none)) else (none))) else (none)) else (none)) else (if x19=20 then (r07_Instr.l0 k x3 0 x218000 x218001 x218002 x218003 x218004 x218005 x218006 x218007) else (if x19=21 then (if x218002=0 then (if x3.size+1≤9223372036854775807 then (if (x3++(⟨#[32]⟩:ByteArray)).size+x218006.size≤9223372036854775807 then ((r07_args.f k x218004 0).bind fun t230=>(if ((x3++(⟨#[32]⟩:ByteArray))++x218006).size+t230.size≤9223372036854775807 then (some (((x3++(⟨#[32]⟩:ByteArray))++x218006)++t230)) else (none))) else (none)) else (none)) else (if x3.size+2≤9223372036854775807 then ((r01_Print.f k x218002).bind fun t231=>(if (x3++(⟨#[32,64]⟩:ByteArray)).size+t231.size≤9223372036854775807 then (if ((x3++(⟨#[32,64]⟩:ByteArray))++t231).size+1≤9223372036854775807 then (if (((x3++(⟨#[32,64]⟩:ByteArray))++t231)++(⟨#[32]⟩:ByteArray)).size+x218006.size≤9223372036854775807 then ((r07_args.f k x218004 0).bind fun t232=>(if ((((x3++(⟨#[32,64]⟩:ByteArray))++t231)++(⟨#[32]⟩:ByteArray))++x218006).size+t232.size≤9223372036854775807 then (some (((((x3++(⟨#[32,64]⟩:ByteArray))++t231)++(⟨#[32]⟩:ByteArray))++x218006)++t232)) else (none))) else (none)) else (none)) else (none))) else (none))) else ((r07_args.f k x218004 0).bind fun t233=>(if x3.size+t233.size≤9223372036854775807 then (r07_Instr.l1 k (x3++t233) 0 x218000 x218001 x218002 x218003 x218004 x218005 x218006 x218007) else (none)))))
def r07_Instr.l0:Nat→ByteArray→Int→Int→Int→Int→Int→List Int→List Int→ByteArray→Int→Option (ByteArray)
 | 0,_,_,_,_,_,_,_,_,_,_=>none
 | k+1,x3,x4,x218000,x218001,x218002,x218003,x218004,x218005,x218006,x218007=>if x4<(x218005.length:Int) then (if x3.size+2≤9223372036854775807 then (if 0≤x4 then ((r07_small.f k (rd x218005 x4)).bind fun t227=>(if (x3++(⟨#[32,98]⟩:ByteArray)).size+t227.size≤9223372036854775807 then (if ((x3++(⟨#[32,98]⟩:ByteArray))++t227).size+2≤9223372036854775807 then (if x4<(x218004.length:Int) then ((r07_small.f k (rd x218004 x4)).bind fun t229=>(if (((x3++(⟨#[32,98]⟩:ByteArray))++t227)++(⟨#[32,37]⟩:ByteArray)).size+t229.size≤9223372036854775807 then (r07_Instr.l0 k ((((x3++(⟨#[32,98]⟩:ByteArray))++t227)++(⟨#[32,37]⟩:ByteArray))++t229) (wrap64 (x4+1)) x218000 x218001 x218002 x218003 x218004 x218005 x218006 x218007) else (none))) else (none)) else (none)) else (none))) else (none)) else (none)) else (some x3)
def r07_Instr.l1:Nat→ByteArray→Int→Int→Int→Int→Int→List Int→List Int→ByteArray→Int→Option (ByteArray)
 | 0,_,_,_,_,_,_,_,_,_,_=>none
 | k+1,x3,x5,x218000,x218001,x218002,x218003,x218004,x218005,x218006,x218007=>if x5<(x218005.length:Int) then (if x3.size+2≤9223372036854775807 then (if 0≤x5 then ((r07_small.f k (rd x218005 x5)).bind fun t235=>(if (x3++(⟨#[32,98]⟩:ByteArray)).size+t235.size≤9223372036854775807 then (r07_Instr.l1 k ((x3++(⟨#[32,98]⟩:ByteArray))++t235) (wrap64 (x5+1)) x218000 x218001 x218002 x218003 x218004 x218005 x218006 x218007) else (none))) else (none)) else (none)) else (some x3)
end
def r07_Instr.f (k:Nat) (a0_0:Int) (a0_1:Int) (a0_2:Int) (a0_3:Int) (l0_4:List Int) (l0_5:List Int) (a0_6:ByteArray) (a0_7:Int):Option (ByteArray):=(r05_Word.f a0_0 a0_1 a0_2 a0_3 l0_4 l0_5 a0_6 a0_7).bind fun t218=>((r05_Makes.f k a0_0 a0_1 a0_2 a0_3 l0_4 l0_5 a0_6 a0_7).bind fun t219=>(if t219=0 then (r07_Instr.j0 k t218 a0_0 a0_1 a0_2 a0_3 l0_4 l0_5 a0_6 a0_7) else ((r07_small.f k a0_1).bind fun t220=>(if 1+t220.size≤9223372036854775807 then (if ((⟨#[37]⟩:ByteArray)++t220).size+3≤9223372036854775807 then (if (((⟨#[37]⟩:ByteArray)++t220)++(⟨#[32,61,32]⟩:ByteArray)).size+t218.size≤9223372036854775807 then (r07_Instr.j0 k ((((⟨#[37]⟩:ByteArray)++t220)++(⟨#[32,61,32]⟩:ByteArray))++t218) a0_0 a0_1 a0_2 a0_3 l0_4 l0_5 a0_6 a0_7) else (none)) else (none)) else (none)))))
def r07_Instr.T17:Bool × List (List Nat × List Nat):=(true,[([],[]),([0],[0]),([],[]),([2],[2]),([3],[3]),([4],[4]),([5],[5]),([1,6],[1,6]),([7],[7]),([],[]),([9],[9]),([10,6],[10]),([8,11],[8,11]),([],[]),([13],[13]),([14,11],[14]),([12,15],[12,15]),([16,15,0,1,2,3,4,5,6,7,8,9,10,11,12,13,14,15,16],[16])])
def r07_Instr.B17:List Nat:=[0,1,0,4,12,28,60,127,255,0,512,1660,4095,0,8192,28284,65535,131071]
theorem r07_Instr.tab17:rtab .any (opsOf Try.f14 17)=r07_Instr.T17:=by kernel_rfl
theorem r07_Instr.bits17:waitsOk r07_Instr.T17.2 r07_Instr.B17=true:=by kernel_rfl
def r07_Instr.T22:Bool × List (List Nat × List Nat):=(true,[([],[]),([0],[0]),([],[]),([2],[2]),([],[]),([3,4],[3,4]),([5],[5]),([6],[6]),([1,7],[1,7]),([8],[8]),([],[]),([10],[10]),([],[]),([11,12],[11,12]),([13],[13]),([14,7],[14]),([9,15],[9,15]),([16,15,0,1,2,3,4,5,6,7,8,9,10,11,12,13,14,15,16],[0,16])])
def r07_Instr.B22:List Nat:=[0,1,0,4,0,28,60,124,255,511,0,1024,0,7168,15360,31996,65535,131071]
theorem r07_Instr.tab22:rtab .any (opsOf Try.f14 22)=r07_Instr.T22:=by kernel_rfl
theorem r07_Instr.bits22:waitsOk r07_Instr.T22.2 r07_Instr.B22=true:=by kernel_rfl
def r07_Instr.T27:Bool × List (List Nat × List Nat):=(true,[([],[]),([0],[0]),([],[]),([2],[2]),([1,3],[1,3]),([],[]),([5],[5]),([6],[6]),([4,7],[4,7]),([8,7,0,1,2,3,4,5,6,7,8],[8])])
def r07_Instr.B27:List Nat:=[0,1,0,4,15,0,32,96,255,511]
theorem r07_Instr.tab27:rtab .any (opsOf Try.f14 27)=r07_Instr.T27:=by kernel_rfl
theorem r07_Instr.bits27:waitsOk r07_Instr.T27.2 r07_Instr.B27=true:=by kernel_rfl
theorem r07_Instr.calls (k:Nat) (a0_0:Int) (a0_1:Int) (a0_2:Int) (a0_3:Int) (A0_4:Option Addr) (c0_4:Nat) (l0_4:List Int) (A0_5:Option Addr) (c0_5:Nat) (l0_5:List Int) (a0_6:ByteArray) (a0_7:Int) (r:ByteArray) (w:World) (hr0_4:Kd.C (Kd.int .i64) w A0_4 l0_4.length l0_4) (hc0_4:l0_4.length≤c0_4) (hr0_5:Kd.C (Kd.int .i64) w A0_5 l0_5.length l0_5) (hc0_5:l0_5.length≤c0_5) (h:r07_Instr.f k a0_0 a0_1 a0_2 a0_3 l0_4 l0_5 a0_6 a0_7=some r):
  Calls Try.prog 14 #[.agg #[.int .i64 a0_0,.int .i64 a0_1,.int .i64 a0_2,.int .i64 a0_3,.slice A0_4 l0_4.length c0_4,.slice A0_5 l0_5.length c0_5,.string a0_6,.int .i64 a0_7]] w fun e w'=>e=.returned (.string r)∧Below w.heap.size w w':=by
 have HR0_4:=aM hr0_4
 have HC0_4:=aM hc0_4
 clear hr0_4 hc0_4
 have HR0_5:=aM hr0_5
 have HC0_5:=aM hc0_5
 clear hr0_5 hc0_5
 have HB:=aM (Below.refl w.heap.size w)
 have H:((r05_Word.f a0_0 a0_1 a0_2 a0_3 l0_4 l0_5 a0_6 a0_7).bind fun t218=>((r05_Makes.f k a0_0 a0_1 a0_2 a0_3 l0_4 l0_5 a0_6 a0_7).bind fun t219=>(if t219=0 then (r07_Instr.j0 k t218 a0_0 a0_1 a0_2 a0_3 l0_4 l0_5 a0_6 a0_7) else ((r07_small.f k a0_1).bind fun t220=>(if 1+t220.size≤9223372036854775807 then (if ((⟨#[37]⟩:ByteArray)++t220).size+3≤9223372036854775807 then (if (((⟨#[37]⟩:ByteArray)++t220)++(⟨#[32,61,32]⟩:ByteArray)).size+t218.size≤9223372036854775807 then (r07_Instr.j0 k ((((⟨#[37]⟩:ByteArray)++t220)++(⟨#[32,61,32]⟩:ByteArray))++t218) a0_0 a0_1 a0_2 a0_3 l0_4 l0_5 a0_6 a0_7) else (none)) else (none)) else (none))))))=some r:=h
 clear h
 replace H:=Option.bind_eq_some_iff.mp H
 obtain ⟨t218,A20,H⟩:=H
 have A2:=aM A20
 clear A20
 replace H:=Option.bind_eq_some_iff.mp H
 obtain ⟨t219,A30,H⟩:=H
 have A3:=aM A30
 clear A30
 have HC4:=aM H
 clear H
 go_enter Try.func14,Try.ntmps14
 go_upto_if 10 with (first | ((with_reducible refine gate_dst (N:=1) rfl ?_);refine box_event ?hg (N:=1) ?hd (cs:=#[.int .i64 a0_0,.int .i64 a0_1,.int .i64 a0_2,.int .i64 a0_3,.slice A0_4 l0_4.length c0_4,.slice A0_5 l0_5.length c0_5,.string a0_6,.int .i64 a0_7]) (t:=39) ?hr ?_;(case hd=>rfl);(case hg=>rfl);(case hr=>first | (go_simp;done) | (go_simp;rfl));intro gb217 hg w5 hbox hb;have n0_:=aM (below_step (zB HB.out) hb);have n1_:=aM (hbox);have n2_:=aM ((by rw [hg];exact (below_size (zB HB.out)):w.heap.size≤gb217));have n3_:=aM ((by rw [hg];exact (below_size (zB HB.out)):w.heap.size≤gb217));clear HB;have HB:=n0_;have BK217:=n1_;have GE217:=n3_;clear n0_ n1_ n2_ n3_;clear hb hbox hg;have hcz6_0:w5.cell? ⟨gb217,0,none⟩=some (.int .i64 a0_0):=(blk_cell BK217.out 0).trans rfl;have hcz6_1:w5.cell? ⟨gb217,1,none⟩=some (.int .i64 a0_1):=(blk_cell BK217.out 1).trans rfl;have hcz6_2:w5.cell? ⟨gb217,2,none⟩=some (.int .i64 a0_2):=(blk_cell BK217.out 2).trans rfl;have hcz6_3:w5.cell? ⟨gb217,3,none⟩=some (.int .i64 a0_3):=(blk_cell BK217.out 3).trans rfl;have hcz6_4:w5.cell? ⟨gb217,4,none⟩=some (.slice A0_4 l0_4.length c0_4):=(blk_cell BK217.out 4).trans rfl;have hcz6_5:w5.cell? ⟨gb217,5,none⟩=some (.slice A0_5 l0_5.length c0_5):=(blk_cell BK217.out 5).trans rfl;have hcz6_6:w5.cell? ⟨gb217,6,none⟩=some (.string a0_6):=(blk_cell BK217.out 6).trans rfl;have hcz6_7:w5.cell? ⟨gb217,7,none⟩=some (.int .i64 a0_7):=(blk_cell BK217.out 7).trans rfl) | ((with_reducible refine gate_callee (f:=43) rfl ?_);refine goesL_ (some 7) rfl rfl Try.func43 (by kernel_rfl) rfl #[.agg #[.int .i64 a0_0,.int .i64 a0_1,.int .i64 a0_2,.int .i64 a0_3,.slice A0_4 l0_4.length c0_4,.slice A0_5 l0_5.length c0_5,.string a0_6,.int .i64 a0_7]] rfl zA ?_;(with_reducible refine (r05_Word.calls a0_0 a0_1 a0_2 a0_3 _ _ l0_4 _ _ l0_5 a0_6 a0_7 t218 _ ?side1 ?side2 ?side3 ?side4 A2.out).mono ?_);(case side1=>repeat (first | exact (Kd.C_below HR0_4.out HB.out) | (with_reducible refine Kd.C_alloc ?_ _) | (with_reducible refine Kd.C_drewN ?_ _) | (with_reducible refine Kd.C_drew ?_)));(case side2=>exact HC0_4.out);(case side3=>repeat (first | exact (Kd.C_below HR0_5.out HB.out) | (with_reducible refine Kd.C_alloc ?_ _) | (with_reducible refine Kd.C_drewN ?_ _) | (with_reducible refine Kd.C_drew ?_)));(case side4=>exact HC0_5.out);rintro e w7 ⟨rfl,hb⟩;refine ⟨_,rfl,?_⟩;have n0_:=aM (blk_below (g:=gb217) (o:=.cells #[.int .i64 a0_0,.int .i64 a0_1,.int .i64 a0_2,.int .i64 a0_3,.slice A0_4 l0_4.length c0_4,.slice A0_5 l0_5.length c0_5,.string a0_6,.int .i64 a0_7] 39 (0,0)) (zK BK217.out) hb);have n1_:=aM (below_step (zC HB.out GE217.out) hb);clear BK217;clear HB;have BK217:=n0_;have HB:=n1_;clear n0_ n1_;(try clear hb);(try clear hb2);(try clear hk);(try clear hi);have hcz8_0:w7.cell? ⟨gb217,0,none⟩=some (.int .i64 a0_0):=(blk_cell BK217.out 0).trans rfl;have hcz8_1:w7.cell? ⟨gb217,1,none⟩=some (.int .i64 a0_1):=(blk_cell BK217.out 1).trans rfl;have hcz8_2:w7.cell? ⟨gb217,2,none⟩=some (.int .i64 a0_2):=(blk_cell BK217.out 2).trans rfl;have hcz8_3:w7.cell? ⟨gb217,3,none⟩=some (.int .i64 a0_3):=(blk_cell BK217.out 3).trans rfl;have hcz8_4:w7.cell? ⟨gb217,4,none⟩=some (.slice A0_4 l0_4.length c0_4):=(blk_cell BK217.out 4).trans rfl;have hcz8_5:w7.cell? ⟨gb217,5,none⟩=some (.slice A0_5 l0_5.length c0_5):=(blk_cell BK217.out 5).trans rfl;have hcz8_6:w7.cell? ⟨gb217,6,none⟩=some (.string a0_6):=(blk_cell BK217.out 6).trans rfl;have hcz8_7:w7.cell? ⟨gb217,7,none⟩=some (.int .i64 a0_7):=(blk_cell BK217.out 7).trans rfl) | ((with_reducible refine gate_callee (f:=25) rfl ?_);refine goesL_ (some 9) rfl rfl Try.func25 (by kernel_rfl) rfl #[.agg #[.int .i64 a0_0,.int .i64 a0_1,.int .i64 a0_2,.int .i64 a0_3,.slice A0_4 l0_4.length c0_4,.slice A0_5 l0_5.length c0_5,.string a0_6,.int .i64 a0_7]] rfl zA ?_;(with_reducible refine (r05_Makes.calls k a0_0 a0_1 a0_2 a0_3 _ _ l0_4 _ _ l0_5 a0_6 a0_7 t219 _ ?side1 ?side2 ?side3 ?side4 A3.out).mono ?_);(case side1=>repeat (first | exact (Kd.C_below HR0_4.out HB.out) | (with_reducible refine Kd.C_alloc ?_ _) | (with_reducible refine Kd.C_drewN ?_ _) | (with_reducible refine Kd.C_drew ?_)));(case side2=>exact HC0_4.out);(case side3=>repeat (first | exact (Kd.C_below HR0_5.out HB.out) | (with_reducible refine Kd.C_alloc ?_ _) | (with_reducible refine Kd.C_drewN ?_ _) | (with_reducible refine Kd.C_drew ?_)));(case side4=>exact HC0_5.out);rintro e w9 ⟨rfl,hb⟩;refine ⟨_,rfl,?_⟩;have n0_:=aM (blk_below (g:=gb217) (o:=.cells #[.int .i64 a0_0,.int .i64 a0_1,.int .i64 a0_2,.int .i64 a0_3,.slice A0_4 l0_4.length c0_4,.slice A0_5 l0_5.length c0_5,.string a0_6,.int .i64 a0_7] 39 (0,0)) (zK BK217.out) hb);have n1_:=aM (below_step (zC HB.out GE217.out) hb);clear BK217;clear HB;have BK217:=n0_;have HB:=n1_;clear n0_ n1_;(try clear hb);(try clear hb2);(try clear hk);(try clear hi)))
 (try simp only [Act.put,qA,qB,qC])
 go_cut [3] (fun v3 wc=>∃ (kq:Nat) (x3_3:ByteArray),v3=.string x3_3∧Aside0 (r07_Instr.j0 kq x3_3 a0_0 a0_1 a0_2 a0_3 l0_4 l0_5 a0_6 a0_7=some r)∧Aside0 (kq≤k)∧Aside0 (wc.heap[gb217]?=some (.cells #[.int .i64 a0_0,.int .i64 a0_1,.int .i64 a0_2,.int .i64 a0_3,(.slice A0_4 l0_4.length c0_4),(.slice A0_5 l0_5.length c0_5),.string a0_6,.int .i64 a0_7] 39 (0,0)))∧Aside0 (Below w.heap.size w wc))
 case first=>
  have H:=HC4.out
  clear HC4
  by_cases c10:t219=0
  ·rw [if_pos c10] at H
   have c10b0:(t219==0)=true:=beq_iff_eq.mpr c10
   have c10b1:(t219 !=0)=false:=bne_eq_false_iff_eq.mpr c10
   clear c10
   (first | rw [c10b0] | (simp only [i64_w,i32_w];rw [c10b0]) | skip)
   have H':=aM H
   clear H
   go_wp2
   go_meet
   case rel=>exact ⟨_,(t218),(by first | rfl | (simp;done) | (simp [*];done)),H',⟨by first | omega | exact Nat.le_refl _⟩,⟨zK BK217.out⟩,⟨zC HB.out GE217.out⟩⟩
  ·rw [if_neg c10] at H
   have c10b0:(t219==0)=false:=beq_eq_false_iff_ne.mpr c10
   have c10b1:(t219 !=0)=true:=bne_iff_ne.mpr c10
   (first | rw [c10b0] | (simp only [i64_w,i32_w];rw [c10b0]) | skip)
   replace H:=Option.bind_eq_some_iff.mp H
   obtain ⟨t220,A110,H⟩:=H
   have A11:=aM A110
   clear A110
   by_cases c12:1+t220.size≤9223372036854775807
   ·rw [if_pos c12] at H
    try have c12b2:(9223372036854775807<1+t220.size)=False:=eq_false (Nat.not_lt.2 c12)
    by_cases c13:((⟨#[37]⟩:ByteArray)++t220).size+3≤9223372036854775807
    ·rw [if_pos c13] at H
     try have c13b2:(9223372036854775807<((⟨#[37]⟩:ByteArray)++t220).size+3)=False:=eq_false (Nat.not_lt.2 c13)
     try (have c13b3:=c13b2;simp only [ByteArray.size_append,show ((⟨#[37]⟩:ByteArray)).size=1 from rfl] at c13b3)
     by_cases c14:(((⟨#[37]⟩:ByteArray)++t220)++(⟨#[32,61,32]⟩:ByteArray)).size+t218.size≤9223372036854775807
     ·rw [if_pos c14] at H
      try have c14b2:(9223372036854775807<(((⟨#[37]⟩:ByteArray)++t220)++(⟨#[32,61,32]⟩:ByteArray)).size+t218.size)=False:=eq_false (Nat.not_lt.2 c14)
      try (have c14b3:=c14b2;simp only [ByteArray.size_append,show ((⟨#[32,61,32]⟩:ByteArray)).size=3 from rfl,show ((⟨#[37]⟩:ByteArray)).size=1 from rfl] at c14b3)
      have H':=aM H
      clear H
      have hcz15_1:w9.cell? ⟨gb217,1,none⟩=some (.int .i64 a0_1):=(blk_cell BK217.out 1).trans rfl
      go_wp2_with (first | ((with_reducible refine gate_callee (f:=36) rfl ?_);refine goesL_ (some 13) rfl rfl Try.func36 (by kernel_rfl) rfl #[.int .i64 a0_1] rfl zA ?_;(with_reducible refine (r07_small.calls k a0_1 t220 _ A11.out).mono ?_);rintro e w16 ⟨rfl,hb⟩;refine ⟨_,rfl,?_⟩;have n0_:=aM (blk_below (g:=gb217) (o:=.cells #[.int .i64 a0_0,.int .i64 a0_1,.int .i64 a0_2,.int .i64 a0_3,.slice A0_4 l0_4.length c0_4,.slice A0_5 l0_5.length c0_5,.string a0_6,.int .i64 a0_7] 39 (0,0)) (zK BK217.out) hb);have n1_:=aM (below_step (zC HB.out GE217.out) hb);clear BK217;clear HB;have BK217:=n0_;have HB:=n1_;clear n0_ n1_;(try clear hb);(try clear hb2);(try clear hk);(try clear hi)))
      go_meet
      case rel=>exact ⟨_,((((⟨#[37]⟩:ByteArray)++t220)++(⟨#[32,61,32]⟩:ByteArray))++t218),(by first | rfl | (simp;done) | (simp [*];done)),H',⟨by first | omega | exact Nat.le_refl _⟩,⟨zK BK217.out⟩,⟨zC HB.out GE217.out⟩⟩
     ·rw [if_neg c14] at H
      exact absurd H (by simp)
    ·rw [if_neg c13] at H
     exact absurd H (by simp)
   ·rw [if_neg c12] at H
    exact absurd H (by simp)
 case rest=>
  clear HC4 hcz6_0 hcz6_1 hcz6_2 hcz6_3 hcz6_4 hcz6_5 hcz6_6 hcz6_7 hcz8_0 hcz8_1 hcz8_2 hcz8_3 hcz8_4 hcz8_5 hcz8_6 hcz8_7
  obtain ⟨kq,x3_3,rfl,HA,HJ3,BK217,HB⟩:=hcut
  cases kq with
  | zero=>exact absurd HA.out (by simp [r07_Instr.j0])
  | succ kj3=>
   have H:=HA.out
   clear HA
   simp only [r07_Instr.j0] at H
   have HC17:=aM H
   clear H
   have hcz18_0:wc.cell? ⟨gb217,0,none⟩=some (.int .i64 a0_0):=(blk_cell BK217.out 0).trans rfl
   go_upto_if 20 with (fail)
   go_cut [20] (fun v20 wc=>∃ (kq:Nat) (x20_16:Bool),v20=.bool x20_16∧Aside0 (r07_Instr.j1 kq x3_3 a0_0 x20_16 a0_0 a0_1 a0_2 a0_3 l0_4 l0_5 a0_6 a0_7=some r)∧Aside0 (kq≤kj3)∧Aside0 (wc.heap[gb217]?=some (.cells #[.int .i64 a0_0,.int .i64 a0_1,.int .i64 a0_2,.int .i64 a0_3,(.slice A0_4 l0_4.length c0_4),(.slice A0_5 l0_5.length c0_5),.string a0_6,.int .i64 a0_7] 39 (0,0)))∧Aside0 (Below w.heap.size w wc))
   case first=>
    have H:=HC17.out
    clear HC17
    by_cases c19:a0_0=1
    ·rw [if_pos c19] at H
     have c19b0:(a0_0==1)=true:=beq_iff_eq.mpr c19
     clear c19
     (first | rw [c19b0] | (simp only [i64_w,i32_w];rw [c19b0]) | skip)
     have H':=aM H
     clear H
     go_wp2
     go_meet
     case rel=>exact ⟨_,((a0_0==1)),(by first | rfl | (simp;done) | (simp [*];done)),H',⟨by have:=HJ3.out;first | omega | exact Nat.le_refl _⟩,⟨zK BK217.out⟩,⟨zC HB.out GE217.out⟩⟩
    ·rw [if_neg c19] at H
     have c19b0:(a0_0==1)=false:=beq_eq_false_iff_ne.mpr c19
     (first | rw [c19b0] | (simp only [i64_w,i32_w];rw [c19b0]) | skip)
     by_cases c20:a0_0=23
     ·rw [if_pos c20] at H
      have c20b0:(a0_0==23)=true:=beq_iff_eq.mpr c20
      clear c20
      have H':=aM H
      clear H
      go_wp2
      go_meet
      case rel=>exact ⟨_,((a0_0==23)),(by first | rfl | (simp;done) | (simp [*];done)),H',⟨by have:=HJ3.out;first | omega | exact Nat.le_refl _⟩,⟨zK BK217.out⟩,⟨zC HB.out GE217.out⟩⟩
     ·rw [if_neg c20] at H
      have c20b0:(a0_0==23)=false:=beq_eq_false_iff_ne.mpr c20
      have H':=aM H
      clear H
      go_wp2
      go_meet
      case rel=>exact ⟨_,((a0_0==29)),(by first | rfl | (simp;done) | (simp [*];done)),H',⟨by have:=HJ3.out;first | omega | exact Nat.le_refl _⟩,⟨zK BK217.out⟩,⟨zC HB.out GE217.out⟩⟩
   case rest=>
    clear HC17 hcz18_0
    obtain ⟨kq,x20_16,rfl,HA,HJ16,BK217,HB⟩:=hcut
    cases kq with
    | zero=>exact absurd HA.out (by simp [r07_Instr.j1])
    | succ kj16=>
     have H:=HA.out
     clear HA
     simp only [r07_Instr.j1] at H
     by_cases c21:x20_16=true
     ·subst c21
      have H1:(if x3_3.size+1≤9223372036854775807 then ((r01_Print.f kj16 a0_2).bind fun t221=>(if (x3_3++(⟨#[32]⟩:ByteArray)).size+t221.size≤9223372036854775807 then (some ((x3_3++(⟨#[32]⟩:ByteArray))++t221)) else (none))) else (none))=some r:=by rw [if_pos rfl] at H;exact H
      clear H
      have H:=H1
      clear H1
      by_cases c22:x3_3.size+1≤9223372036854775807
      ·rw [if_pos c22] at H
       try have c22b2:(9223372036854775807<x3_3.size+1)=False:=eq_false (Nat.not_lt.2 c22)
       replace H:=Option.bind_eq_some_iff.mp H
       obtain ⟨t221,A230,H⟩:=H
       have A23:=aM A230
       clear A230
       by_cases c24:(x3_3++(⟨#[32]⟩:ByteArray)).size+t221.size≤9223372036854775807
       ·rw [if_pos c24] at H
        try have c24b2:(9223372036854775807<(x3_3++(⟨#[32]⟩:ByteArray)).size+t221.size)=False:=eq_false (Nat.not_lt.2 c24)
        try (have c24b3:=c24b2;simp only [ByteArray.size_append,show ((⟨#[32]⟩:ByteArray)).size=1 from rfl] at c24b3)
        obtain rfl:=Option.some.inj H
        have hcz25_2:wc.cell? ⟨gb217,2,none⟩=some (.int .i64 a0_2):=(blk_cell BK217.out 2).trans rfl
        go_wp2_with (first | ((with_reducible refine gate_callee (f:=44) rfl ?_);refine goesL_ (some 28) rfl rfl Try.func44 (by kernel_rfl) rfl #[.int .i64 a0_2] rfl zA ?_;(with_reducible refine (r01_Print.calls kj16 a0_2 t221 _ A23.out).mono ?_);rintro e w26 ⟨rfl,hb⟩;refine ⟨_,rfl,?_⟩;have n0_:=aM (blk_below (g:=gb217) (o:=.cells #[.int .i64 a0_0,.int .i64 a0_1,.int .i64 a0_2,.int .i64 a0_3,.slice A0_4 l0_4.length c0_4,.slice A0_5 l0_5.length c0_5,.string a0_6,.int .i64 a0_7] 39 (0,0)) (zK BK217.out) hb);have n1_:=aM (below_step (zC HB.out GE217.out) hb);clear BK217;clear HB;have BK217:=n0_;have HB:=n1_;clear n0_ n1_;(try clear hb);(try clear hb2);(try clear hk);(try clear hi)))
        go_ret
        exact ⟨zF,zC HB.out GE217.out⟩
       ·rw [if_neg c24] at H
        exact absurd H (by simp)
      ·rw [if_neg c22] at H
       exact absurd H (by simp)
     ·replace c21:=Bool.eq_false_iff.mpr c21
      subst c21
      have H1:(if a0_0=10 then (if x3_3.size+1≤9223372036854775807 then (if (x3_3++(⟨#[32]⟩:ByteArray)).size+a0_6.size≤9223372036854775807 then (some ((x3_3++(⟨#[32]⟩:ByteArray))++a0_6)) else (none)) else (none)) else (if a0_0=11 then (r07_Instr.j2 kj16 x3_3 a0_0 (a0_0==11) a0_0 a0_1 a0_2 a0_3 l0_4 l0_5 a0_6 a0_7) else (if a0_0=12 then (r07_Instr.j2 kj16 x3_3 a0_0 (a0_0==12) a0_0 a0_1 a0_2 a0_3 l0_4 l0_5 a0_6 a0_7) else (if a0_0=15 then (r07_Instr.j2 kj16 x3_3 a0_0 (a0_0==15) a0_0 a0_1 a0_2 a0_3 l0_4 l0_5 a0_6 a0_7) else (if a0_0=24 then (r07_Instr.j2 kj16 x3_3 a0_0 (a0_0==24) a0_0 a0_1 a0_2 a0_3 l0_4 l0_5 a0_6 a0_7) else (if a0_0=13 then (r07_Instr.j2 kj16 x3_3 a0_0 (a0_0==13) a0_0 a0_1 a0_2 a0_3 l0_4 l0_5 a0_6 a0_7) else (r07_Instr.j2 kj16 x3_3 a0_0 (a0_0==14) a0_0 a0_1 a0_2 a0_3 l0_4 l0_5 a0_6 a0_7)))))))=some r:=by rw [if_neg (show ¬ (false=true) by decide)] at H;exact H
      clear H
      have H:=H1
      clear H1
      by_cases c27:a0_0=10
      ·rw [if_pos c27] at H
       have c27b0:(a0_0==10)=true:=beq_iff_eq.mpr c27
       clear c27
       by_cases c28:x3_3.size+1≤9223372036854775807
       ·rw [if_pos c28] at H
        try have c28b2:(9223372036854775807<x3_3.size+1)=False:=eq_false (Nat.not_lt.2 c28)
        by_cases c29:(x3_3++(⟨#[32]⟩:ByteArray)).size+a0_6.size≤9223372036854775807
        ·rw [if_pos c29] at H
         try have c29b2:(9223372036854775807<(x3_3++(⟨#[32]⟩:ByteArray)).size+a0_6.size)=False:=eq_false (Nat.not_lt.2 c29)
         try (have c29b3:=c29b2;simp only [ByteArray.size_append,show ((⟨#[32]⟩:ByteArray)).size=1 from rfl] at c29b3)
         obtain rfl:=Option.some.inj H
         have hcz30_6:wc.cell? ⟨gb217,6,none⟩=some (.string a0_6):=(blk_cell BK217.out 6).trans rfl
         go_wp2
         go_ret
         exact ⟨zF,zC HB.out GE217.out⟩
        ·rw [if_neg c29] at H
         exact absurd H (by simp)
       ·rw [if_neg c28] at H
        exact absurd H (by simp)
      ·rw [if_neg c27] at H
       have c27b0:(a0_0==10)=false:=beq_eq_false_iff_ne.mpr c27
       have HC31:=aM H
       clear H
       go_upto_if 37 with (fail)
       go_cut [37] (fun v37 wc=>∃ (kq:Nat) (x37_30:Bool),v37=.bool x37_30∧Aside0 (r07_Instr.j2 kq x3_3 a0_0 x37_30 a0_0 a0_1 a0_2 a0_3 l0_4 l0_5 a0_6 a0_7=some r)∧Aside0 (kq≤kj16)∧Aside0 (wc.heap[gb217]?=some (.cells #[.int .i64 a0_0,.int .i64 a0_1,.int .i64 a0_2,.int .i64 a0_3,(.slice A0_4 l0_4.length c0_4),(.slice A0_5 l0_5.length c0_5),.string a0_6,.int .i64 a0_7] 39 (0,0)))∧Aside0 (Below w.heap.size w wc))
       case first=>
        have H:=HC31.out
        clear HC31
        by_cases c32:a0_0=11
        ·rw [if_pos c32] at H
         have c32b0:(a0_0==11)=true:=beq_iff_eq.mpr c32
         clear c32
         (first | rw [c32b0] | (simp only [i64_w,i32_w];rw [c32b0]) | skip)
         have H':=aM H
         clear H
         go_wp2
         go_meet
         case rel=>exact ⟨_,((a0_0==11)),(by first | rfl | (simp;done) | (simp [*];done)),H',⟨by have:=HJ3.out;have:=HJ16.out;first | omega | exact Nat.le_refl _⟩,⟨zK BK217.out⟩,⟨zC HB.out GE217.out⟩⟩
        ·rw [if_neg c32] at H
         have c32b0:(a0_0==11)=false:=beq_eq_false_iff_ne.mpr c32
         (first | rw [c32b0] | (simp only [i64_w,i32_w];rw [c32b0]) | skip)
         by_cases c33:a0_0=12
         ·rw [if_pos c33] at H
          have c33b0:(a0_0==12)=true:=beq_iff_eq.mpr c33
          clear c33
          have H':=aM H
          clear H
          go_wp2
          go_meet
          case rel=>exact ⟨_,((a0_0==12)),(by first | rfl | (simp;done) | (simp [*];done)),H',⟨by have:=HJ3.out;have:=HJ16.out;first | omega | exact Nat.le_refl _⟩,⟨zK BK217.out⟩,⟨zC HB.out GE217.out⟩⟩
         ·rw [if_neg c33] at H
          have c33b0:(a0_0==12)=false:=beq_eq_false_iff_ne.mpr c33
          by_cases c34:a0_0=15
          ·rw [if_pos c34] at H
           have c34b0:(a0_0==15)=true:=beq_iff_eq.mpr c34
           clear c34
           have H':=aM H
           clear H
           go_wp2
           go_meet
           case rel=>exact ⟨_,((a0_0==15)),(by first | rfl | (simp;done) | (simp [*];done)),H',⟨by have:=HJ3.out;have:=HJ16.out;first | omega | exact Nat.le_refl _⟩,⟨zK BK217.out⟩,⟨zC HB.out GE217.out⟩⟩
          ·rw [if_neg c34] at H
           have c34b0:(a0_0==15)=false:=beq_eq_false_iff_ne.mpr c34
           by_cases c35:a0_0=24
           ·rw [if_pos c35] at H
            have c35b0:(a0_0==24)=true:=beq_iff_eq.mpr c35
            clear c35
            have H':=aM H
            clear H
            go_wp2
            go_meet
            case rel=>exact ⟨_,((a0_0==24)),(by first | rfl | (simp;done) | (simp [*];done)),H',⟨by have:=HJ3.out;have:=HJ16.out;first | omega | exact Nat.le_refl _⟩,⟨zK BK217.out⟩,⟨zC HB.out GE217.out⟩⟩
           ·rw [if_neg c35] at H
            have c35b0:(a0_0==24)=false:=beq_eq_false_iff_ne.mpr c35
            by_cases c36:a0_0=13
            ·rw [if_pos c36] at H
             have c36b0:(a0_0==13)=true:=beq_iff_eq.mpr c36
             clear c36
             have H':=aM H
             clear H
             go_wp2
             go_meet
             case rel=>exact ⟨_,((a0_0==13)),(by first | rfl | (simp;done) | (simp [*];done)),H',⟨by have:=HJ3.out;have:=HJ16.out;first | omega | exact Nat.le_refl _⟩,⟨zK BK217.out⟩,⟨zC HB.out GE217.out⟩⟩
            ·rw [if_neg c36] at H
             have c36b0:(a0_0==13)=false:=beq_eq_false_iff_ne.mpr c36
             have H':=aM H
             clear H
             go_wp2
             go_meet
             case rel=>exact ⟨_,((a0_0==14)),(by first | rfl | (simp;done) | (simp [*];done)),H',⟨by have:=HJ3.out;have:=HJ16.out;first | omega | exact Nat.le_refl _⟩,⟨zK BK217.out⟩,⟨zC HB.out GE217.out⟩⟩
       case rest=>
        clear HC31 c27 c27b0
        obtain ⟨kq,x37_30,rfl,HA,HJ30,BK217,HB⟩:=hcut
        cases kq with
        | zero=>exact absurd HA.out (by simp [r07_Instr.j2])
        | succ kj30=>
         have H:=HA.out
         clear HA
         simp only [r07_Instr.j2] at H
         by_cases c37:x37_30=true
         ·subst c37
          have H1:(if x3_3.size+2≤9223372036854775807 then (if 0<(l0_4.length:Int) then ((r07_small.f kj30 (rd l0_4 0)).bind fun t223=>(if (x3_3++(⟨#[32,37]⟩:ByteArray)).size+t223.size≤9223372036854775807 then (if ((x3_3++(⟨#[32,37]⟩:ByteArray))++t223).size+1≤9223372036854775807 then ((r01_Print.f kj30 a0_2).bind fun t224=>(if (((x3_3++(⟨#[32,37]⟩:ByteArray))++t223)++(⟨#[32]⟩:ByteArray)).size+t224.size≤9223372036854775807 then ((r07_args.f kj30 l0_4 1).bind fun t225=>(if ((((x3_3++(⟨#[32,37]⟩:ByteArray))++t223)++(⟨#[32]⟩:ByteArray))++t224).size+t225.size≤9223372036854775807 then (some (((((x3_3++(⟨#[32,37]⟩:ByteArray))++t223)++(⟨#[32]⟩:ByteArray))++t224)++t225)) else (none))) else (none))) else (none)) else (none))) else (none)) else (none))=some r:=by rw [if_pos rfl] at H;exact H
          clear H
          have H:=H1
          clear H1
          by_cases c38:x3_3.size+2≤9223372036854775807
          ·rw [if_pos c38] at H
           try have c38b2:(9223372036854775807<x3_3.size+2)=False:=eq_false (Nat.not_lt.2 c38)
           by_cases c39:0<(l0_4.length:Int)
           ·rw [if_pos c39] at H
            have c39b0:decide (0<(l0_4.length:Int))=true:=decide_eq_true c39
            clear c39
            replace H:=Option.bind_eq_some_iff.mp H
            obtain ⟨t223,A400,H⟩:=H
            have A40:=aM A400
            clear A400
            by_cases c41:(x3_3++(⟨#[32,37]⟩:ByteArray)).size+t223.size≤9223372036854775807
            ·rw [if_pos c41] at H
             try have c41b2:(9223372036854775807<(x3_3++(⟨#[32,37]⟩:ByteArray)).size+t223.size)=False:=eq_false (Nat.not_lt.2 c41)
             try (have c41b3:=c41b2;simp only [ByteArray.size_append,show ((⟨#[32,37]⟩:ByteArray)).size=2 from rfl] at c41b3)
             by_cases c42:((x3_3++(⟨#[32,37]⟩:ByteArray))++t223).size+1≤9223372036854775807
             ·rw [if_pos c42] at H
              try have c42b2:(9223372036854775807<((x3_3++(⟨#[32,37]⟩:ByteArray))++t223).size+1)=False:=eq_false (Nat.not_lt.2 c42)
              try (have c42b3:=c42b2;simp only [ByteArray.size_append,show ((⟨#[32,37]⟩:ByteArray)).size=2 from rfl] at c42b3)
              replace H:=Option.bind_eq_some_iff.mp H
              obtain ⟨t224,A430,H⟩:=H
              have A43:=aM A430
              clear A430
              by_cases c44:(((x3_3++(⟨#[32,37]⟩:ByteArray))++t223)++(⟨#[32]⟩:ByteArray)).size+t224.size≤9223372036854775807
              ·rw [if_pos c44] at H
               try have c44b2:(9223372036854775807<(((x3_3++(⟨#[32,37]⟩:ByteArray))++t223)++(⟨#[32]⟩:ByteArray)).size+t224.size)=False:=eq_false (Nat.not_lt.2 c44)
               try (have c44b3:=c44b2;simp only [ByteArray.size_append,show ((⟨#[32,37]⟩:ByteArray)).size=2 from rfl,show ((⟨#[32]⟩:ByteArray)).size=1 from rfl] at c44b3)
               replace H:=Option.bind_eq_some_iff.mp H
               obtain ⟨t225,A450,H⟩:=H
               have A45:=aM A450
               clear A450
               by_cases c46:((((x3_3++(⟨#[32,37]⟩:ByteArray))++t223)++(⟨#[32]⟩:ByteArray))++t224).size+t225.size≤9223372036854775807
               ·rw [if_pos c46] at H
                try have c46b2:(9223372036854775807<((((x3_3++(⟨#[32,37]⟩:ByteArray))++t223)++(⟨#[32]⟩:ByteArray))++t224).size+t225.size)=False:=eq_false (Nat.not_lt.2 c46)
                try (have c46b3:=c46b2;simp only [ByteArray.size_append,show ((⟨#[32,37]⟩:ByteArray)).size=2 from rfl,show ((⟨#[32]⟩:ByteArray)).size=1 from rfl] at c46b3)
                obtain rfl:=Option.some.inj H
                try go_wp2
                have n0_:=aM (blk_drew BK217.out)
                have n1_:=aM (below_drew1 HB.out)
                clear BK217 HB
                have BK217:=n0_
                have HB:=n1_
                clear n0_ n1_
                have p222:0≤(0:Int):=(by omega)
                have q222:0<(l0_4.length:Int):=of_decide_eq_true zS
                obtain ⟨ad222,e222,hx222_0⟩:=Kd.at_int HR0_4.out 0 p222 q222
                have hw222_0:=hx222_0
                (try rw [show ((0:Int)).toNat=0 from rfl] at hw222_0)
                (try rw [show 0 * 1=0 from rfl] at hw222_0)
                (try rw [Addr.add_zero'] at hw222_0)
                cases e222
                have qi222:(0<l0_4.length)=True:=eq_true (by omega)
                (try rw [show ((0:Int)).toNat=0 from rfl] at hx222_0)
                (try rw [Addr.add_zero'] at hx222_0)
                replace hx222_0:=(HB.out.cell (World.block_lt_of_cell? w _ hx222_0)).trans hx222_0
                replace p222:=eq_true p222
                replace q222:=eq_true q222
                refine start_ (n:=18) (S:=fun w'=>w'.cell? ⟨gb217,0,none⟩=some (.int .i64 a0_0)∧w'.cell? ⟨gb217,1,none⟩=some (.int .i64 a0_1)∧w'.cell? ⟨gb217,2,none⟩=some (.int .i64 a0_2)∧w'.cell? ⟨gb217,3,none⟩=some (.int .i64 a0_3)∧w'.cell? ⟨gb217,4,none⟩=some (.slice (some ad222) l0_4.length c0_4)∧w'.cell? ⟨gb217,5,none⟩=some (.slice A0_5 l0_5.length c0_5)∧w'.cell? ⟨gb217,6,none⟩=some (.string a0_6)∧w'.cell? ⟨gb217,7,none⟩=some (.int .i64 a0_7)∧w'.cell? ad222=some (.int .i64 (rd l0_4 0))) (ds:=[]) #[false,false,false,false,false,false,false,false,false,false,false,false,false,false,false,false,false,false] (by kernel_rfl) rfl rfl ⟨(blk_cell BK217.out 0).trans rfl,(blk_cell BK217.out 1).trans rfl,(blk_cell BK217.out 2).trans rfl,(blk_cell BK217.out 3).trans rfl,(blk_cell BK217.out 4).trans rfl,(blk_cell BK217.out 5).trans rfl,(blk_cell BK217.out 6).trans rfl,(blk_cell BK217.out 7).trans rfl,((HB.out.cell (World.block_lt_of_cell? w _ hw222_0)).trans hw222_0)⟩ (fun hHeld=>?_);refine with_tabW r07_Instr.tab17 r07_Instr.bits17 (fun HT_ HW_=>?_)
                generalize wc.drew=w47 at BK217 HB hx222_0 hHeld ⊢
                refine pure_ (i:=0) (N:=some 44) (v:=?_) (a':=?_) #[true,false,false,false,false,false,false,false,false,false,false,false,false,false,false,false,false,false] rfl rfl (any_of HT_.out (by kernel_rfl)) (fun _ _ _ h=>h) (Or.inl ⟨by rfl,?_⟩) ?_ ?_
                rotate_left
                ·intro w'
                 go_simp
                 with_reducible rfl
                rotate_left
                ·simp only [Act.put,qA,qB,qC,i64_w,i32_w]
                 rfl
                refine pure_ (i:=1) (N:=some 45) (v:=?_) (a':=?_) #[true,true,false,false,false,false,false,false,false,false,false,false,false,false,false,false,false,false] rfl rfl (any_of HT_.out (by kernel_rfl)) (fun _ _ _ h=>h) (Or.inl ⟨by rfl,?_⟩) ?_ ?_
                rotate_left
                ·intro w'
                 go_simp
                 with_reducible rfl
                rotate_left
                ·simp only [Act.put,qA,qB,qC,i64_w,i32_w]
                 rfl
                refine pure_ (i:=2) (N:=some 46) (v:=?_) (a':=?_) #[true,true,true,false,false,false,false,false,false,false,false,false,false,false,false,false,false,false] rfl rfl (any_of HT_.out (by kernel_rfl)) (fun _ _ _ h=>h) (Or.inl ⟨by rfl,?_⟩) ?_ ?_
                rotate_left
                ·intro w'
                 go_simp
                 with_reducible rfl
                rotate_left
                ·simp only [Act.put,qA,qB,qC,i64_w,i32_w]
                 rfl
                refine pure_ (i:=9) (N:=some 53) (v:=?_) (a':=?_) #[true,true,true,false,false,false,false,false,false,true,false,false,false,false,false,false,false,false] rfl rfl (any_of HT_.out (by kernel_rfl)) (fun _ _ _ h=>h) (Or.inl ⟨by rfl,?_⟩) ?_ ?_
                rotate_left
                ·intro w'
                 go_simp
                 with_reducible rfl
                rotate_left
                ·simp only [Act.put,qA,qB,qC,i64_w,i32_w]
                 rfl
                refine pure_ (i:=13) (N:=some 57) (v:=?_) (a':=?_) #[true,true,true,false,false,false,false,false,false,true,false,false,false,true,false,false,false,false] rfl rfl (any_of HT_.out (by kernel_rfl)) (fun _ _ _ h=>h) (Or.inl ⟨by rfl,?_⟩) ?_ ?_
                rotate_left
                ·intro w'
                 go_simp
                 with_reducible rfl
                rotate_left
                ·simp only [Act.put,qA,qB,qC,i64_w,i32_w]
                 rfl
                refine take_ (i:=3) (N:=some 47) (v:=?_) (a':=?_) #[true,true,true,true,false,false,false,false,false,true,false,false,false,true,false,false,false,false] rfl rfl (take_ofW HT_.out HW_.out (by kernel_rfl)) (fun _ _ _ h=>h) (Or.inl ⟨by rfl,?_⟩) hHeld ?_ ?_
                rotate_left
                ·rintro w' ⟨s0,s1,s2,s3,s4,s5,s6,s7,s8⟩
                 go_simp
                 with_reducible rfl
                rotate_left
                ·simp only [Act.put,qA,qB,qC,i64_w,i32_w]
                 rfl
                refine pure_ (i:=4) (N:=some 48) (v:=?_) (a':=?_) #[true,true,true,true,true,false,false,false,false,true,false,false,false,true,false,false,false,false] rfl rfl (any_of HT_.out (by kernel_rfl)) (fun _ _ _ h=>h) (Or.inl ⟨by rfl,?_⟩) ?_ ?_
                rotate_left
                ·intro w'
                 go_simp
                 with_reducible rfl
                rotate_left
                ·simp only [Act.put,qA,qB,qC,i64_w,i32_w]
                 rfl
                refine take_ (i:=5) (N:=some 49) (v:=?_) (a':=?_) #[true,true,true,true,true,true,false,false,false,true,false,false,false,true,false,false,false,false] rfl rfl (take_ofW HT_.out HW_.out (by kernel_rfl)) (fun _ _ _ h=>h) (Or.inl ⟨by rfl,?_⟩) hHeld ?_ ?_
                rotate_left
                ·rintro w' ⟨s0,s1,s2,s3,s4,s5,s6,s7,s8⟩
                 go_simp
                 with_reducible rfl
                rotate_left
                ·simp only [Act.put,qA,qB,qC,i64_w,i32_w]
                 rfl
                refine take_ (i:=10) (N:=some 54) (v:=?_) (a':=?_) #[true,true,true,true,true,true,false,false,false,true,true,false,false,true,false,false,false,false] rfl rfl (take_ofW HT_.out HW_.out (by kernel_rfl)) (fun _ _ _ h=>h) (Or.inl ⟨by rfl,?_⟩) hHeld ?_ ?_
                rotate_left
                ·rintro w' ⟨s0,s1,s2,s3,s4,s5,s6,s7,s8⟩
                 go_simp
                 with_reducible rfl
                rotate_left
                ·simp only [Act.put,qA,qB,qC,i64_w,i32_w]
                 rfl
                refine take_ (i:=14) (N:=some 58) (v:=?_) (a':=?_) #[true,true,true,true,true,true,false,false,false,true,true,false,false,true,true,false,false,false] rfl rfl (take_ofW HT_.out HW_.out (by kernel_rfl)) (fun _ _ _ h=>h) (Or.inl ⟨by rfl,?_⟩) hHeld ?_ ?_
                rotate_left
                ·rintro w' ⟨s0,s1,s2,s3,s4,s5,s6,s7,s8⟩
                 go_simp
                 with_reducible rfl
                rotate_left
                ·simp only [Act.put,qA,qB,qC,i64_w,i32_w]
                 rfl
                refine one_ (i:=6) (N:=some 50) #[true,true,true,true,true,true,true,false,false,true,true,false,false,true,true,false,false,false] rfl rfl (one_of HT_.out (by kernel_rfl)) (by decide) (fun K hK=>?_)
                refine goes_ Try.func36 (by kernel_rfl) rfl #[.int .i64 (rd l0_4 0)] (by rfl) rfl rfl zA ?_
                with_reducible refine (r07_small.calls kj30 (rd l0_4 0) t223 _ A40.out).mono ?_
                rintro e w48 ⟨rfl,hb⟩
                refine ⟨_,rfl,?_⟩
                have n0_:=aM (blk_below (g:=gb217) (o:=.cells #[.int .i64 a0_0,.int .i64 a0_1,.int .i64 a0_2,.int .i64 a0_3,.slice (some ad222) l0_4.length c0_4,.slice A0_5 l0_5.length c0_5,.string a0_6,.int .i64 a0_7] 39 (0,0)) (zK BK217.out) hb)
                have n1_:=aM (below_step (zC HB.out GE217.out) hb)
                clear BK217 HB
                have BK217:=n0_
                have HB:=n1_
                clear n0_ n1_
                (try clear hb)
                (try clear hb2)
                (try clear hk)
                (try clear hi)
                refine hK.out _ _ ⟨(blk_cell BK217.out 0).trans rfl,(blk_cell BK217.out 1).trans rfl,(blk_cell BK217.out 2).trans rfl,(blk_cell BK217.out 3).trans rfl,(blk_cell BK217.out 4).trans rfl,(blk_cell BK217.out 5).trans rfl,(blk_cell BK217.out 6).trans rfl,(blk_cell BK217.out 7).trans rfl,((HB.out.cell (World.block_lt_of_cell? w _ hw222_0)).trans hw222_0)⟩ (fun hHeld=>?_)
                clear hK K
                refine norm_ (a':=?_) ?_ ?_
                rotate_left
                ·show Act.put _ (some 50) _=_
                 simp only [Act.put,qA,qB,qC,i64_w,i32_w]
                 rfl
                refine pure_ (i:=7) (N:=some 51) (v:=?_) (a':=?_) #[true,true,true,true,true,true,true,true,false,true,true,false,false,true,true,false,false,false] rfl rfl (any_of HT_.out (by kernel_rfl)) (fun _ _ _ h=>h) (Or.inl ⟨by rfl,?_⟩) ?_ ?_
                rotate_left
                ·intro w'
                 go_simp
                 with_reducible rfl
                rotate_left
                ·simp only [Act.put,qA,qB,qC,i64_w,i32_w]
                 rfl
                refine pure_ (i:=8) (N:=some 52) (v:=?_) (a':=?_) #[true,true,true,true,true,true,true,true,true,true,true,false,false,true,true,false,false,false] rfl rfl (any_of HT_.out (by kernel_rfl)) (fun _ _ _ h=>h) (Or.inl ⟨by rfl,?_⟩) ?_ ?_
                rotate_left
                ·intro w'
                 go_simp
                 with_reducible rfl
                rotate_left
                ·simp only [Act.put,qA,qB,qC,i64_w,i32_w]
                 rfl
                refine one_ (i:=11) (N:=some 55) #[true,true,true,true,true,true,true,true,true,true,true,true,false,true,true,false,false,false] rfl rfl (one_of HT_.out (by kernel_rfl)) (by decide) (fun K hK=>?_)
                refine goes_ Try.func44 (by kernel_rfl) rfl #[.int .i64 a0_2] (by rfl) rfl rfl zA ?_
                with_reducible refine (r01_Print.calls kj30 a0_2 t224 _ A43.out).mono ?_
                rintro e w49 ⟨rfl,hb⟩
                refine ⟨_,rfl,?_⟩
                have n0_:=aM (blk_below (g:=gb217) (o:=.cells #[.int .i64 a0_0,.int .i64 a0_1,.int .i64 a0_2,.int .i64 a0_3,.slice (some ad222) l0_4.length c0_4,.slice A0_5 l0_5.length c0_5,.string a0_6,.int .i64 a0_7] 39 (0,0)) (zK BK217.out) hb)
                have n1_:=aM (below_step (zC HB.out GE217.out) hb)
                clear BK217 HB
                have BK217:=n0_
                have HB:=n1_
                clear n0_ n1_
                (try clear hb)
                (try clear hb2)
                (try clear hk)
                (try clear hi)
                refine hK.out _ _ ⟨(blk_cell BK217.out 0).trans rfl,(blk_cell BK217.out 1).trans rfl,(blk_cell BK217.out 2).trans rfl,(blk_cell BK217.out 3).trans rfl,(blk_cell BK217.out 4).trans rfl,(blk_cell BK217.out 5).trans rfl,(blk_cell BK217.out 6).trans rfl,(blk_cell BK217.out 7).trans rfl,((HB.out.cell (World.block_lt_of_cell? w _ hw222_0)).trans hw222_0)⟩ (fun hHeld=>?_)
                clear hK K
                refine norm_ (a':=?_) ?_ ?_
                rotate_left
                ·show Act.put _ (some 55) _=_
                 simp only [Act.put,qA,qB,qC,i64_w,i32_w]
                 rfl
                refine pure_ (i:=12) (N:=some 56) (v:=?_) (a':=?_) #[true,true,true,true,true,true,true,true,true,true,true,true,true,true,true,false,false,false] rfl rfl (any_of HT_.out (by kernel_rfl)) (fun _ _ _ h=>h) (Or.inl ⟨by rfl,?_⟩) ?_ ?_
                rotate_left
                ·intro w'
                 go_simp
                 with_reducible rfl
                rotate_left
                ·simp only [Act.put,qA,qB,qC,i64_w,i32_w]
                 rfl
                refine one_ (i:=15) (N:=some 59) #[true,true,true,true,true,true,true,true,true,true,true,true,true,true,true,true,false,false] rfl rfl (one_of HT_.out (by kernel_rfl)) (by decide) (fun K hK=>?_)
                refine goes_ Try.func45 (by kernel_rfl) rfl #[.slice (some ad222) l0_4.length c0_4,.int .i64 1] (by rfl) rfl rfl zA ?_
                with_reducible refine (r07_args.calls kj30 _ _ l0_4 1 t225 _ ?side1 ?side2 A45.out).mono ?_
                (case side1=>repeat (first | exact (Kd.C_below HR0_4.out HB.out) | (with_reducible refine Kd.C_alloc ?_ _) | (with_reducible refine Kd.C_drewN ?_ _) | (with_reducible refine Kd.C_drew ?_)))
                (case side2=>exact HC0_4.out)
                rintro e w50 ⟨rfl,hb⟩
                refine ⟨_,rfl,?_⟩
                have n0_:=aM (blk_below (g:=gb217) (o:=.cells #[.int .i64 a0_0,.int .i64 a0_1,.int .i64 a0_2,.int .i64 a0_3,.slice (some ad222) l0_4.length c0_4,.slice A0_5 l0_5.length c0_5,.string a0_6,.int .i64 a0_7] 39 (0,0)) (zK BK217.out) hb)
                have n1_:=aM (below_step (zC HB.out GE217.out) hb)
                clear BK217 HB
                have BK217:=n0_
                have HB:=n1_
                clear n0_ n1_
                (try clear hb)
                (try clear hb2)
                (try clear hk)
                (try clear hi)
                refine hK.out _ _ ⟨(blk_cell BK217.out 0).trans rfl,(blk_cell BK217.out 1).trans rfl,(blk_cell BK217.out 2).trans rfl,(blk_cell BK217.out 3).trans rfl,(blk_cell BK217.out 4).trans rfl,(blk_cell BK217.out 5).trans rfl,(blk_cell BK217.out 6).trans rfl,(blk_cell BK217.out 7).trans rfl,((HB.out.cell (World.block_lt_of_cell? w _ hw222_0)).trans hw222_0)⟩ (fun hHeld=>?_)
                clear hK K
                refine norm_ (a':=?_) ?_ ?_
                rotate_left
                ·show Act.put _ (some 59) _=_
                 simp only [Act.put,qA,qB,qC,i64_w,i32_w]
                 rfl
                refine pure_ (i:=16) (N:=some 60) (v:=?_) (a':=?_) #[true,true,true,true,true,true,true,true,true,true,true,true,true,true,true,true,true,false] rfl rfl (any_of HT_.out (by kernel_rfl)) (fun _ _ _ h=>h) (Or.inl ⟨by rfl,?_⟩) ?_ ?_
                rotate_left
                ·intro w'
                 go_simp
                 with_reducible rfl
                rotate_left
                ·simp only [Act.put,qA,qB,qC,i64_w,i32_w]
                 rfl
                refine pure_ (i:=17) (N:=some 2) (v:=?_) (a':=?_) #[true,true,true,true,true,true,true,true,true,true,true,true,true,true,true,true,true,true] rfl rfl (any_of HT_.out (by kernel_rfl)) (fun _ _ _ h=>h) (Or.inl ⟨by rfl,?_⟩) ?_ ?_
                rotate_left
                ·intro w'
                 go_simp
                 with_reducible rfl
                rotate_left
                ·simp only [Act.put,qA,qB,qC,i64_w,i32_w]
                 rfl
                refine done_ (done_of HT_.out (by kernel_rfl)) ?_
                try go_wp2
                go_ret
                exact ⟨zF,zC HB.out GE217.out⟩
               ·rw [if_neg c46] at H
                exact absurd H (by simp)
              ·rw [if_neg c44] at H
               exact absurd H (by simp)
             ·rw [if_neg c42] at H
              exact absurd H (by simp)
            ·rw [if_neg c41] at H
             exact absurd H (by simp)
           ·rw [if_neg c39] at H
            exact absurd H (by simp)
          ·rw [if_neg c38] at H
           exact absurd H (by simp)
         ·replace c37:=Bool.eq_false_iff.mpr c37
          subst c37
          have H1:(if a0_0=20 then (r07_Instr.l0 kj30 x3_3 0 a0_0 a0_1 a0_2 a0_3 l0_4 l0_5 a0_6 a0_7) else (if a0_0=21 then (if a0_2=0 then (if x3_3.size+1≤9223372036854775807 then (if (x3_3++(⟨#[32]⟩:ByteArray)).size+a0_6.size≤9223372036854775807 then ((r07_args.f kj30 l0_4 0).bind fun t230=>(if ((x3_3++(⟨#[32]⟩:ByteArray))++a0_6).size+t230.size≤9223372036854775807 then (some (((x3_3++(⟨#[32]⟩:ByteArray))++a0_6)++t230)) else (none))) else (none)) else (none)) else (if x3_3.size+2≤9223372036854775807 then ((r01_Print.f kj30 a0_2).bind fun t231=>(if (x3_3++(⟨#[32,64]⟩:ByteArray)).size+t231.size≤9223372036854775807 then (if ((x3_3++(⟨#[32,64]⟩:ByteArray))++t231).size+1≤9223372036854775807 then (if (((x3_3++(⟨#[32,64]⟩:ByteArray))++t231)++(⟨#[32]⟩:ByteArray)).size+a0_6.size≤9223372036854775807 then ((r07_args.f kj30 l0_4 0).bind fun t232=>(if ((((x3_3++(⟨#[32,64]⟩:ByteArray))++t231)++(⟨#[32]⟩:ByteArray))++a0_6).size+t232.size≤9223372036854775807 then (some (((((x3_3++(⟨#[32,64]⟩:ByteArray))++t231)++(⟨#[32]⟩:ByteArray))++a0_6)++t232)) else (none))) else (none)) else (none)) else (none))) else (none))) else ((r07_args.f kj30 l0_4 0).bind fun t233=>(if x3_3.size+t233.size≤9223372036854775807 then (r07_Instr.l1 kj30 (x3_3++t233) 0 a0_0 a0_1 a0_2 a0_3 l0_4 l0_5 a0_6 a0_7) else (none)))))=some r:=by rw [if_neg (show ¬ (false=true) by decide)] at H;exact H
          clear H
          have H:=H1
          clear H1
          by_cases c51:a0_0=20
          ·rw [if_pos c51] at H
           have c51b0:(a0_0==20)=true:=beq_iff_eq.mpr c51
           clear c51
           have H':=aM H
           clear H
           go_wp2
           go_loopg [3,4] kj30 (fun kq v3 v4 w'=>∃ (x3_4:ByteArray) (x4_4:Int),v3=.string x3_4∧v4=.int .i64 x4_4∧Aside0 (r07_Instr.l0 kq x3_4 x4_4 a0_0 a0_1 a0_2 a0_3 l0_4 l0_5 a0_6 a0_7=some r)∧Aside0 (kq≤kj30)∧Aside0 (w'.heap[gb217]?=some (.cells #[.int .i64 a0_0,.int .i64 a0_1,.int .i64 a0_2,.int .i64 a0_3,(.slice A0_4 l0_4.length c0_4),(.slice A0_5 l0_5.length c0_5),.string a0_6,.int .i64 a0_7] 39 (0,0)))∧Aside0 (Below w.heap.size w w'))
           case atStart=>exact ⟨(x3_3),(0),(by first | rfl | (simp;done) | (simp [*];done)),(by first | rfl | (simp;done) | (simp [*];done)),H',⟨Nat.le_refl _⟩,⟨zK BK217.out⟩,⟨zC HB.out GE217.out⟩⟩
           case round=>
            clear H' c51b0
            obtain ⟨x3_4,x4_4,rfl,rfl,HA,HK4,BK217,HB⟩:=hrel
            cases gk with
            | zero=>exact absurd HA.out (by simp [r07_Instr.l0])
            | succ k4=>
             have H:=HA.out
             clear HA
             simp only [r07_Instr.l0] at H
             by_cases c52:x4_4<(l0_5.length:Int)
             ·rw [if_pos c52] at H
              have c52b0:decide (x4_4<(l0_5.length:Int))=true:=decide_eq_true c52
              clear c52
              by_cases c53:x3_4.size+2≤9223372036854775807
              ·rw [if_pos c53] at H
               try have c53b2:(9223372036854775807<x3_4.size+2)=False:=eq_false (Nat.not_lt.2 c53)
               by_cases c54:0≤x4_4
               ·rw [if_pos c54] at H
                have c54b0:decide (0≤x4_4)=true:=decide_eq_true c54
                clear c54
                replace H:=Option.bind_eq_some_iff.mp H
                obtain ⟨t227,A550,H⟩:=H
                have A55:=aM A550
                clear A550
                by_cases c56:(x3_4++(⟨#[32,98]⟩:ByteArray)).size+t227.size≤9223372036854775807
                ·rw [if_pos c56] at H
                 try have c56b2:(9223372036854775807<(x3_4++(⟨#[32,98]⟩:ByteArray)).size+t227.size)=False:=eq_false (Nat.not_lt.2 c56)
                 try (have c56b3:=c56b2;simp only [ByteArray.size_append,show ((⟨#[32,98]⟩:ByteArray)).size=2 from rfl] at c56b3)
                 by_cases c57:((x3_4++(⟨#[32,98]⟩:ByteArray))++t227).size+2≤9223372036854775807
                 ·rw [if_pos c57] at H
                  try have c57b2:(9223372036854775807<((x3_4++(⟨#[32,98]⟩:ByteArray))++t227).size+2)=False:=eq_false (Nat.not_lt.2 c57)
                  try (have c57b3:=c57b2;simp only [ByteArray.size_append,show ((⟨#[32,98]⟩:ByteArray)).size=2 from rfl] at c57b3)
                  by_cases c58:x4_4<(l0_4.length:Int)
                  ·rw [if_pos c58] at H
                   have c58b0:decide (x4_4<(l0_4.length:Int))=true:=decide_eq_true c58
                   clear c58
                   replace H:=Option.bind_eq_some_iff.mp H
                   obtain ⟨t229,A590,H⟩:=H
                   have A59:=aM A590
                   clear A590
                   by_cases c60:(((x3_4++(⟨#[32,98]⟩:ByteArray))++t227)++(⟨#[32,37]⟩:ByteArray)).size+t229.size≤9223372036854775807
                   ·rw [if_pos c60] at H
                    try have c60b2:(9223372036854775807<(((x3_4++(⟨#[32,98]⟩:ByteArray))++t227)++(⟨#[32,37]⟩:ByteArray)).size+t229.size)=False:=eq_false (Nat.not_lt.2 c60)
                    try (have c60b3:=c60b2;simp only [ByteArray.size_append,show ((⟨#[32,37]⟩:ByteArray)).size=2 from rfl,show ((⟨#[32,98]⟩:ByteArray)).size=2 from rfl] at c60b3)
                    have H':=aM H
                    clear H
                    have hcz61_4:wr.cell? ⟨gb217,4,none⟩=some (.slice A0_4 l0_4.length c0_4):=(blk_cell BK217.out 4).trans rfl
                    have hcz61_5:wr.cell? ⟨gb217,5,none⟩=some (.slice A0_5 l0_5.length c0_5):=(blk_cell BK217.out 5).trans rfl
                    try go_wp2
                    have n0_:=aM (blk_drew BK217.out)
                    have n1_:=aM (below_drew1 HB.out)
                    clear BK217 HB
                    have BK217:=n0_
                    have HB:=n1_
                    clear n0_ n1_
                    have p226:0≤(x4_4:Int):=of_decide_eq_true zS
                    have q226:x4_4<(l0_5.length:Int):=of_decide_eq_true zS
                    obtain ⟨ad226,e226,hx226_0⟩:=Kd.at_int HR0_5.out x4_4 p226 q226
                    have hw226_0:=hx226_0
                    cases e226
                    replace hx226_0:=(HB.out.cell (World.block_lt_of_cell? w _ hx226_0)).trans hx226_0
                    replace p226:=eq_true p226
                    replace q226:=eq_true q226
                    have p228:0≤(x4_4:Int):=of_decide_eq_true zS
                    have q228:x4_4<(l0_4.length:Int):=of_decide_eq_true zS
                    obtain ⟨ad228,e228,hx228_0⟩:=Kd.at_int HR0_4.out x4_4 p228 q228
                    have hw228_0:=hx228_0
                    cases e228
                    replace hx228_0:=(HB.out.cell (World.block_lt_of_cell? w _ hx228_0)).trans hx228_0
                    replace p228:=eq_true p228
                    replace q228:=eq_true q228
                    refine start_ (n:=18) (S:=fun w'=>w'.cell? ⟨gb217,0,none⟩=some (.int .i64 a0_0)∧w'.cell? ⟨gb217,1,none⟩=some (.int .i64 a0_1)∧w'.cell? ⟨gb217,2,none⟩=some (.int .i64 a0_2)∧w'.cell? ⟨gb217,3,none⟩=some (.int .i64 a0_3)∧w'.cell? ⟨gb217,4,none⟩=some (.slice (some ad228) l0_4.length c0_4)∧w'.cell? ⟨gb217,5,none⟩=some (.slice (some ad226) l0_5.length c0_5)∧w'.cell? ⟨gb217,6,none⟩=some (.string a0_6)∧w'.cell? ⟨gb217,7,none⟩=some (.int .i64 a0_7)∧w'.cell? (ad226.add (x4_4).toNat)=some (.int .i64 (rd l0_5 x4_4))∧w'.cell? (ad228.add (x4_4).toNat)=some (.int .i64 (rd l0_4 x4_4))) (ds:=[]) #[false,false,false,false,false,false,false,false,false,false,false,false,false,false,false,false,false,false] (by kernel_rfl) rfl rfl ⟨(blk_cell BK217.out 0).trans rfl,(blk_cell BK217.out 1).trans rfl,(blk_cell BK217.out 2).trans rfl,(blk_cell BK217.out 3).trans rfl,(blk_cell BK217.out 4).trans rfl,(blk_cell BK217.out 5).trans rfl,(blk_cell BK217.out 6).trans rfl,(blk_cell BK217.out 7).trans rfl,((HB.out.cell (World.block_lt_of_cell? w _ hw226_0)).trans hw226_0),((HB.out.cell (World.block_lt_of_cell? w _ hw228_0)).trans hw228_0)⟩ (fun hHeld=>?_);refine with_tabW r07_Instr.tab22 r07_Instr.bits22 (fun HT_ HW_=>?_)
                    generalize wr.drew=w62 at BK217 HB hx226_0 hx228_0 hHeld ⊢
                    refine pure_ (i:=0) (N:=some 70) (v:=?_) (a':=?_) #[true,false,false,false,false,false,false,false,false,false,false,false,false,false,false,false,false,false] rfl rfl (any_of HT_.out (by kernel_rfl)) (fun _ _ _ h=>h) (Or.inl ⟨by rfl,?_⟩) ?_ ?_
                    rotate_left
                    ·intro w'
                     go_simp
                     with_reducible rfl
                    rotate_left
                    ·simp only [Act.put,qA,qB,qC,i64_w,i32_w]
                     rfl
                    refine pure_ (i:=1) (N:=some 71) (v:=?_) (a':=?_) #[true,true,false,false,false,false,false,false,false,false,false,false,false,false,false,false,false,false] rfl rfl (any_of HT_.out (by kernel_rfl)) (fun _ _ _ h=>h) (Or.inl ⟨by rfl,?_⟩) ?_ ?_
                    rotate_left
                    ·intro w'
                     go_simp
                     with_reducible rfl
                    rotate_left
                    ·simp only [Act.put,qA,qB,qC,i64_w,i32_w]
                     rfl
                    refine pure_ (i:=2) (N:=some 72) (v:=?_) (a':=?_) #[true,true,true,false,false,false,false,false,false,false,false,false,false,false,false,false,false,false] rfl rfl (any_of HT_.out (by kernel_rfl)) (fun _ _ _ h=>h) (Or.inl ⟨by rfl,?_⟩) ?_ ?_
                    rotate_left
                    ·intro w'
                     go_simp
                     with_reducible rfl
                    rotate_left
                    ·simp only [Act.put,qA,qB,qC,i64_w,i32_w]
                     rfl
                    refine pure_ (i:=4) (N:=some 74) (v:=?_) (a':=?_) #[true,true,true,false,true,false,false,false,false,false,false,false,false,false,false,false,false,false] rfl rfl (any_of HT_.out (by kernel_rfl)) (fun _ _ _ h=>h) (Or.inl ⟨by rfl,?_⟩) ?_ ?_
                    rotate_left
                    ·intro w'
                     go_simp
                     with_reducible rfl
                    rotate_left
                    ·simp only [Act.put,qA,qB,qC,i64_w,i32_w]
                     rfl
                    refine pure_ (i:=10) (N:=some 80) (v:=?_) (a':=?_) #[true,true,true,false,true,false,false,false,false,false,true,false,false,false,false,false,false,false] rfl rfl (any_of HT_.out (by kernel_rfl)) (fun _ _ _ h=>h) (Or.inl ⟨by rfl,?_⟩) ?_ ?_
                    rotate_left
                    ·intro w'
                     go_simp
                     with_reducible rfl
                    rotate_left
                    ·simp only [Act.put,qA,qB,qC,i64_w,i32_w]
                     rfl
                    refine pure_ (i:=12) (N:=some 82) (v:=?_) (a':=?_) #[true,true,true,false,true,false,false,false,false,false,true,false,true,false,false,false,false,false] rfl rfl (any_of HT_.out (by kernel_rfl)) (fun _ _ _ h=>h) (Or.inl ⟨by rfl,?_⟩) ?_ ?_
                    rotate_left
                    ·intro w'
                     go_simp
                     with_reducible rfl
                    rotate_left
                    ·simp only [Act.put,qA,qB,qC,i64_w,i32_w]
                     rfl
                    refine take_ (i:=3) (N:=some 73) (v:=?_) (a':=?_) #[true,true,true,true,true,false,false,false,false,false,true,false,true,false,false,false,false,false] rfl rfl (take_ofW HT_.out HW_.out (by kernel_rfl)) (fun _ _ _ h=>h) (Or.inl ⟨by rfl,?_⟩) hHeld ?_ ?_
                    rotate_left
                    ·rintro w' ⟨s0,s1,s2,s3,s4,s5,s6,s7,s8,s9⟩
                     go_simp
                     with_reducible rfl
                    rotate_left
                    ·simp only [Act.put,qA,qB,qC,i64_w,i32_w]
                     rfl
                    refine pure_ (i:=5) (N:=some 75) (v:=?_) (a':=?_) #[true,true,true,true,true,true,false,false,false,false,true,false,true,false,false,false,false,false] rfl rfl (any_of HT_.out (by kernel_rfl)) (fun _ _ _ h=>h) (Or.inl ⟨by rfl,?_⟩) ?_ ?_
                    rotate_left
                    ·intro w'
                     go_simp
                     with_reducible rfl
                    rotate_left
                    ·simp only [Act.put,qA,qB,qC,i64_w,i32_w]
                     rfl
                    refine take_ (i:=6) (N:=some 76) (v:=?_) (a':=?_) #[true,true,true,true,true,true,true,false,false,false,true,false,true,false,false,false,false,false] rfl rfl (take_ofW HT_.out HW_.out (by kernel_rfl)) (fun _ _ _ h=>h) (Or.inl ⟨by rfl,?_⟩) hHeld ?_ ?_
                    rotate_left
                    ·rintro w' ⟨s0,s1,s2,s3,s4,s5,s6,s7,s8,s9⟩
                     go_simp
                     with_reducible rfl
                    rotate_left
                    ·simp only [Act.put,qA,qB,qC,i64_w,i32_w]
                     rfl
                    refine take_ (i:=11) (N:=some 81) (v:=?_) (a':=?_) #[true,true,true,true,true,true,true,false,false,false,true,true,true,false,false,false,false,false] rfl rfl (take_ofW HT_.out HW_.out (by kernel_rfl)) (fun _ _ _ h=>h) (Or.inl ⟨by rfl,?_⟩) hHeld ?_ ?_
                    rotate_left
                    ·rintro w' ⟨s0,s1,s2,s3,s4,s5,s6,s7,s8,s9⟩
                     go_simp
                     with_reducible rfl
                    rotate_left
                    ·simp only [Act.put,qA,qB,qC,i64_w,i32_w]
                     rfl
                    refine pure_ (i:=13) (N:=some 83) (v:=?_) (a':=?_) #[true,true,true,true,true,true,true,false,false,false,true,true,true,true,false,false,false,false] rfl rfl (any_of HT_.out (by kernel_rfl)) (fun _ _ _ h=>h) (Or.inl ⟨by rfl,?_⟩) ?_ ?_
                    rotate_left
                    ·intro w'
                     go_simp
                     with_reducible rfl
                    rotate_left
                    ·simp only [Act.put,qA,qB,qC,i64_w,i32_w]
                     rfl
                    refine take_ (i:=14) (N:=some 84) (v:=?_) (a':=?_) #[true,true,true,true,true,true,true,false,false,false,true,true,true,true,true,false,false,false] rfl rfl (take_ofW HT_.out HW_.out (by kernel_rfl)) (fun _ _ _ h=>h) (Or.inl ⟨by rfl,?_⟩) hHeld ?_ ?_
                    rotate_left
                    ·rintro w' ⟨s0,s1,s2,s3,s4,s5,s6,s7,s8,s9⟩
                     go_simp
                     with_reducible rfl
                    rotate_left
                    ·simp only [Act.put,qA,qB,qC,i64_w,i32_w]
                     rfl
                    refine one_ (i:=7) (N:=some 77) #[true,true,true,true,true,true,true,true,false,false,true,true,true,true,true,false,false,false] rfl rfl (one_of HT_.out (by kernel_rfl)) (by decide) (fun K hK=>?_)
                    refine goes_ Try.func36 (by kernel_rfl) rfl #[.int .i64 (rd l0_5 x4_4)] (by rfl) rfl rfl zA ?_
                    with_reducible refine (r07_small.calls k4 (rd l0_5 x4_4) t227 _ A55.out).mono ?_
                    rintro e w63 ⟨rfl,hb⟩
                    refine ⟨_,rfl,?_⟩
                    have n0_:=aM (blk_below (g:=gb217) (o:=.cells #[.int .i64 a0_0,.int .i64 a0_1,.int .i64 a0_2,.int .i64 a0_3,.slice (some ad228) l0_4.length c0_4,.slice (some ad226) l0_5.length c0_5,.string a0_6,.int .i64 a0_7] 39 (0,0)) (zK BK217.out) hb)
                    have n1_:=aM (below_step (zC HB.out GE217.out) hb)
                    clear BK217 HB
                    have BK217:=n0_
                    have HB:=n1_
                    clear n0_ n1_
                    (try clear hb)
                    (try clear hb2)
                    (try clear hk)
                    (try clear hi)
                    refine hK.out _ _ ⟨(blk_cell BK217.out 0).trans rfl,(blk_cell BK217.out 1).trans rfl,(blk_cell BK217.out 2).trans rfl,(blk_cell BK217.out 3).trans rfl,(blk_cell BK217.out 4).trans rfl,(blk_cell BK217.out 5).trans rfl,(blk_cell BK217.out 6).trans rfl,(blk_cell BK217.out 7).trans rfl,((HB.out.cell (World.block_lt_of_cell? w _ hw226_0)).trans hw226_0),((HB.out.cell (World.block_lt_of_cell? w _ hw228_0)).trans hw228_0)⟩ (fun hHeld=>?_)
                    clear hK K
                    refine norm_ (a':=?_) ?_ ?_
                    rotate_left
                    ·show Act.put _ (some 77) _=_
                     simp only [Act.put,qA,qB,qC,i64_w,i32_w]
                     rfl
                    refine pure_ (i:=8) (N:=some 78) (v:=?_) (a':=?_) #[true,true,true,true,true,true,true,true,true,false,true,true,true,true,true,false,false,false] rfl rfl (any_of HT_.out (by kernel_rfl)) (fun _ _ _ h=>h) (Or.inl ⟨by rfl,?_⟩) ?_ ?_
                    rotate_left
                    ·intro w'
                     go_simp
                     with_reducible rfl
                    rotate_left
                    ·simp only [Act.put,qA,qB,qC,i64_w,i32_w]
                     rfl
                    refine pure_ (i:=9) (N:=some 79) (v:=?_) (a':=?_) #[true,true,true,true,true,true,true,true,true,true,true,true,true,true,true,false,false,false] rfl rfl (any_of HT_.out (by kernel_rfl)) (fun _ _ _ h=>h) (Or.inl ⟨by rfl,?_⟩) ?_ ?_
                    rotate_left
                    ·intro w'
                     go_simp
                     with_reducible rfl
                    rotate_left
                    ·simp only [Act.put,qA,qB,qC,i64_w,i32_w]
                     rfl
                    refine one_ (i:=15) (N:=some 85) #[true,true,true,true,true,true,true,true,true,true,true,true,true,true,true,true,false,false] rfl rfl (one_of HT_.out (by kernel_rfl)) (by decide) (fun K hK=>?_)
                    refine goes_ Try.func36 (by kernel_rfl) rfl #[.int .i64 (rd l0_4 x4_4)] (by rfl) rfl rfl zA ?_
                    with_reducible refine (r07_small.calls k4 (rd l0_4 x4_4) t229 _ A59.out).mono ?_
                    rintro e w64 ⟨rfl,hb⟩
                    refine ⟨_,rfl,?_⟩
                    have n0_:=aM (blk_below (g:=gb217) (o:=.cells #[.int .i64 a0_0,.int .i64 a0_1,.int .i64 a0_2,.int .i64 a0_3,.slice (some ad228) l0_4.length c0_4,.slice (some ad226) l0_5.length c0_5,.string a0_6,.int .i64 a0_7] 39 (0,0)) (zK BK217.out) hb)
                    have n1_:=aM (below_step (zC HB.out GE217.out) hb)
                    clear BK217 HB
                    have BK217:=n0_
                    have HB:=n1_
                    clear n0_ n1_
                    (try clear hb)
                    (try clear hb2)
                    (try clear hk)
                    (try clear hi)
                    refine hK.out _ _ ⟨(blk_cell BK217.out 0).trans rfl,(blk_cell BK217.out 1).trans rfl,(blk_cell BK217.out 2).trans rfl,(blk_cell BK217.out 3).trans rfl,(blk_cell BK217.out 4).trans rfl,(blk_cell BK217.out 5).trans rfl,(blk_cell BK217.out 6).trans rfl,(blk_cell BK217.out 7).trans rfl,((HB.out.cell (World.block_lt_of_cell? w _ hw226_0)).trans hw226_0),((HB.out.cell (World.block_lt_of_cell? w _ hw228_0)).trans hw228_0)⟩ (fun hHeld=>?_)
                    clear hK K
                    refine norm_ (a':=?_) ?_ ?_
                    rotate_left
                    ·show Act.put _ (some 85) _=_
                     simp only [Act.put,qA,qB,qC,i64_w,i32_w]
                     rfl
                    refine pure_ (i:=16) (N:=some 86) (v:=?_) (a':=?_) #[true,true,true,true,true,true,true,true,true,true,true,true,true,true,true,true,true,false] rfl rfl (any_of HT_.out (by kernel_rfl)) (fun _ _ _ h=>h) (Or.inl ⟨by rfl,?_⟩) ?_ ?_
                    rotate_left
                    ·intro w'
                     go_simp
                     with_reducible rfl
                    rotate_left
                    ·simp only [Act.put,qA,qB,qC,i64_w,i32_w]
                     rfl
                    refine pure_ (i:=17) (N:=some 3) (v:=?_) (a':=?_) #[true,true,true,true,true,true,true,true,true,true,true,true,true,true,true,true,true,true] rfl rfl (any_of HT_.out (by kernel_rfl)) (fun _ _ _ h=>h) (Or.inl ⟨by rfl,?_⟩) ?_ ?_
                    rotate_left
                    ·intro w'
                     go_simp
                     with_reducible rfl
                    rotate_left
                    ·simp only [Act.put,qA,qB,qC,i64_w,i32_w]
                     rfl
                    refine done_ (done_of HT_.out (by kernel_rfl)) ?_
                    try go_wp2
                    go_roundg k4
                    case measure=>have:=HJ3.out;have:=HJ16.out;have:=HJ30.out;have:=HK4.out;omega
                    case rel=>exact ⟨((((x3_4++(⟨#[32,98]⟩:ByteArray))++t227)++(⟨#[32,37]⟩:ByteArray))++t229),(wrap64 (x4_4+1)),(by first | rfl | (simp;done) | (simp [*];done)),(by first | rfl | (simp;done) | (simp [*];done)),H',⟨by have:=HJ3.out;have:=HJ16.out;have:=HJ30.out;have:=HK4.out;omega⟩,⟨zK BK217.out⟩,⟨zC HB.out GE217.out⟩⟩
                   ·rw [if_neg c60] at H
                    exact absurd H (by simp)
                  ·rw [if_neg c58] at H
                   exact absurd H (by simp)
                 ·rw [if_neg c57] at H
                  exact absurd H (by simp)
                ·rw [if_neg c56] at H
                 exact absurd H (by simp)
               ·rw [if_neg c54] at H
                exact absurd H (by simp)
              ·rw [if_neg c53] at H
               exact absurd H (by simp)
             ·rw [if_neg c52] at H
              have c52b0:decide (x4_4<(l0_5.length:Int))=false:=decide_eq_false c52
              clear c52
              obtain rfl:=Option.some.inj H
              have hcz65_5:wr.cell? ⟨gb217,5,none⟩=some (.slice A0_5 l0_5.length c0_5):=(blk_cell BK217.out 5).trans rfl
              go_wp2
              go_ret
              exact ⟨zF,zC HB.out GE217.out⟩
          ·rw [if_neg c51] at H
           have c51b0:(a0_0==20)=false:=beq_eq_false_iff_ne.mpr c51
           by_cases c66:a0_0=21
           ·rw [if_pos c66] at H
            have c66b0:(a0_0==21)=true:=beq_iff_eq.mpr c66
            clear c66
            by_cases c67:a0_2=0
            ·rw [if_pos c67] at H
             have c67b1:(a0_2 !=0)=false:=bne_eq_false_iff_eq.mpr c67
             clear c67
             by_cases c68:x3_3.size+1≤9223372036854775807
             ·rw [if_pos c68] at H
              try have c68b2:(9223372036854775807<x3_3.size+1)=False:=eq_false (Nat.not_lt.2 c68)
              by_cases c69:(x3_3++(⟨#[32]⟩:ByteArray)).size+a0_6.size≤9223372036854775807
              ·rw [if_pos c69] at H
               try have c69b2:(9223372036854775807<(x3_3++(⟨#[32]⟩:ByteArray)).size+a0_6.size)=False:=eq_false (Nat.not_lt.2 c69)
               try (have c69b3:=c69b2;simp only [ByteArray.size_append,show ((⟨#[32]⟩:ByteArray)).size=1 from rfl] at c69b3)
               replace H:=Option.bind_eq_some_iff.mp H
               obtain ⟨t230,A700,H⟩:=H
               have A70:=aM A700
               clear A700
               by_cases c71:((x3_3++(⟨#[32]⟩:ByteArray))++a0_6).size+t230.size≤9223372036854775807
               ·rw [if_pos c71] at H
                try have c71b2:(9223372036854775807<((x3_3++(⟨#[32]⟩:ByteArray))++a0_6).size+t230.size)=False:=eq_false (Nat.not_lt.2 c71)
                try (have c71b3:=c71b2;simp only [ByteArray.size_append,show ((⟨#[32]⟩:ByteArray)).size=1 from rfl] at c71b3)
                obtain rfl:=Option.some.inj H
                have hcz72_2:wc.cell? ⟨gb217,2,none⟩=some (.int .i64 a0_2):=(blk_cell BK217.out 2).trans rfl
                try go_wp2
                have n0_:=aM (blk_drew BK217.out)
                have n1_:=aM (below_drew1 HB.out)
                clear BK217 HB
                have BK217:=n0_
                have HB:=n1_
                clear n0_ n1_
                refine start_ (n:=10) (S:=fun w'=>w'.cell? ⟨gb217,0,none⟩=some (.int .i64 a0_0)∧w'.cell? ⟨gb217,1,none⟩=some (.int .i64 a0_1)∧w'.cell? ⟨gb217,2,none⟩=some (.int .i64 a0_2)∧w'.cell? ⟨gb217,3,none⟩=some (.int .i64 a0_3)∧w'.cell? ⟨gb217,4,none⟩=some (.slice A0_4 l0_4.length c0_4)∧w'.cell? ⟨gb217,5,none⟩=some (.slice A0_5 l0_5.length c0_5)∧w'.cell? ⟨gb217,6,none⟩=some (.string a0_6)∧w'.cell? ⟨gb217,7,none⟩=some (.int .i64 a0_7)) (ds:=[]) #[false,false,false,false,false,false,false,false,false,false] (by kernel_rfl) rfl rfl ⟨(blk_cell BK217.out 0).trans rfl,(blk_cell BK217.out 1).trans rfl,(blk_cell BK217.out 2).trans rfl,(blk_cell BK217.out 3).trans rfl,(blk_cell BK217.out 4).trans rfl,(blk_cell BK217.out 5).trans rfl,(blk_cell BK217.out 6).trans rfl,(blk_cell BK217.out 7).trans rfl⟩ (fun hHeld=>?_);refine with_tabW r07_Instr.tab27 r07_Instr.bits27 (fun HT_ HW_=>?_)
                generalize wc.drew=w73 at BK217 HB hHeld ⊢
                refine pure_ (i:=0) (N:=some 99) (v:=?_) (a':=?_) #[true,false,false,false,false,false,false,false,false,false] rfl rfl (any_of HT_.out (by kernel_rfl)) (fun _ _ _ h=>h) (Or.inl ⟨by rfl,?_⟩) ?_ ?_
                rotate_left
                ·intro w'
                 go_simp
                 with_reducible rfl
                rotate_left
                ·simp only [Act.put,qA,qB,qC,i64_w,i32_w]
                 rfl
                refine pure_ (i:=1) (N:=some 100) (v:=?_) (a':=?_) #[true,true,false,false,false,false,false,false,false,false] rfl rfl (any_of HT_.out (by kernel_rfl)) (fun _ _ _ h=>h) (Or.inl ⟨by rfl,?_⟩) ?_ ?_
                rotate_left
                ·intro w'
                 go_simp
                 with_reducible rfl
                rotate_left
                ·simp only [Act.put,qA,qB,qC,i64_w,i32_w]
                 rfl
                refine pure_ (i:=2) (N:=some 101) (v:=?_) (a':=?_) #[true,true,true,false,false,false,false,false,false,false] rfl rfl (any_of HT_.out (by kernel_rfl)) (fun _ _ _ h=>h) (Or.inl ⟨by rfl,?_⟩) ?_ ?_
                rotate_left
                ·intro w'
                 go_simp
                 with_reducible rfl
                rotate_left
                ·simp only [Act.put,qA,qB,qC,i64_w,i32_w]
                 rfl
                refine pure_ (i:=5) (N:=some 104) (v:=?_) (a':=?_) #[true,true,true,false,false,true,false,false,false,false] rfl rfl (any_of HT_.out (by kernel_rfl)) (fun _ _ _ h=>h) (Or.inl ⟨by rfl,?_⟩) ?_ ?_
                rotate_left
                ·intro w'
                 go_simp
                 with_reducible rfl
                rotate_left
                ·simp only [Act.put,qA,qB,qC,i64_w,i32_w]
                 rfl
                refine take_ (i:=3) (N:=some 102) (v:=?_) (a':=?_) #[true,true,true,true,false,true,false,false,false,false] rfl rfl (take_ofW HT_.out HW_.out (by kernel_rfl)) (fun _ _ _ h=>h) (Or.inl ⟨by rfl,?_⟩) hHeld ?_ ?_
                rotate_left
                ·rintro w' ⟨s0,s1,s2,s3,s4,s5,s6,s7⟩
                 go_simp
                 with_reducible rfl
                rotate_left
                ·simp only [Act.put,qA,qB,qC,i64_w,i32_w]
                 rfl
                refine pure_ (i:=4) (N:=some 103) (v:=?_) (a':=?_) #[true,true,true,true,true,true,false,false,false,false] rfl rfl (any_of HT_.out (by kernel_rfl)) (fun _ _ _ h=>h) (Or.inl ⟨by rfl,?_⟩) ?_ ?_
                rotate_left
                ·intro w'
                 go_simp
                 with_reducible rfl
                rotate_left
                ·simp only [Act.put,qA,qB,qC,i64_w,i32_w]
                 rfl
                refine take_ (i:=6) (N:=some 105) (v:=?_) (a':=?_) #[true,true,true,true,true,true,true,false,false,false] rfl rfl (take_ofW HT_.out HW_.out (by kernel_rfl)) (fun _ _ _ h=>h) (Or.inl ⟨by rfl,?_⟩) hHeld ?_ ?_
                rotate_left
                ·rintro w' ⟨s0,s1,s2,s3,s4,s5,s6,s7⟩
                 go_simp
                 with_reducible rfl
                rotate_left
                ·simp only [Act.put,qA,qB,qC,i64_w,i32_w]
                 rfl
                refine one_ (i:=7) (N:=some 106) #[true,true,true,true,true,true,true,true,false,false] rfl rfl (one_of HT_.out (by kernel_rfl)) (by decide) (fun K hK=>?_)
                refine goes_ Try.func45 (by kernel_rfl) rfl #[.slice A0_4 l0_4.length c0_4,.int .i64 0] (by rfl) rfl rfl zA ?_
                with_reducible refine (r07_args.calls kj30 _ _ l0_4 0 t230 _ ?side1 ?side2 A70.out).mono ?_
                (case side1=>repeat (first | exact (Kd.C_below HR0_4.out HB.out) | (with_reducible refine Kd.C_alloc ?_ _) | (with_reducible refine Kd.C_drewN ?_ _) | (with_reducible refine Kd.C_drew ?_)))
                (case side2=>exact HC0_4.out)
                rintro e w74 ⟨rfl,hb⟩
                refine ⟨_,rfl,?_⟩
                have n0_:=aM (blk_below (g:=gb217) (o:=.cells #[.int .i64 a0_0,.int .i64 a0_1,.int .i64 a0_2,.int .i64 a0_3,.slice A0_4 l0_4.length c0_4,.slice A0_5 l0_5.length c0_5,.string a0_6,.int .i64 a0_7] 39 (0,0)) (zK BK217.out) hb)
                have n1_:=aM (below_step (zC HB.out GE217.out) hb)
                clear BK217 HB
                have BK217:=n0_
                have HB:=n1_
                clear n0_ n1_
                (try clear hb)
                (try clear hb2)
                (try clear hk)
                (try clear hi)
                refine hK.out _ _ ⟨(blk_cell BK217.out 0).trans rfl,(blk_cell BK217.out 1).trans rfl,(blk_cell BK217.out 2).trans rfl,(blk_cell BK217.out 3).trans rfl,(blk_cell BK217.out 4).trans rfl,(blk_cell BK217.out 5).trans rfl,(blk_cell BK217.out 6).trans rfl,(blk_cell BK217.out 7).trans rfl⟩ (fun hHeld=>?_)
                clear hK K
                refine norm_ (a':=?_) ?_ ?_
                rotate_left
                ·show Act.put _ (some 106) _=_
                 simp only [Act.put,qA,qB,qC,i64_w,i32_w]
                 rfl
                refine pure_ (i:=8) (N:=some 107) (v:=?_) (a':=?_) #[true,true,true,true,true,true,true,true,true,false] rfl rfl (any_of HT_.out (by kernel_rfl)) (fun _ _ _ h=>h) (Or.inl ⟨by rfl,?_⟩) ?_ ?_
                rotate_left
                ·intro w'
                 go_simp
                 with_reducible rfl
                rotate_left
                ·simp only [Act.put,qA,qB,qC,i64_w,i32_w]
                 rfl
                refine pure_ (i:=9) (N:=some 2) (v:=?_) (a':=?_) #[true,true,true,true,true,true,true,true,true,true] rfl rfl (any_of HT_.out (by kernel_rfl)) (fun _ _ _ h=>h) (Or.inl ⟨by rfl,?_⟩) ?_ ?_
                rotate_left
                ·intro w'
                 go_simp
                 with_reducible rfl
                rotate_left
                ·simp only [Act.put,qA,qB,qC,i64_w,i32_w]
                 rfl
                refine done_ (done_of HT_.out (by kernel_rfl)) ?_
                try go_wp2
                go_ret
                exact ⟨zF,zC HB.out GE217.out⟩
               ·rw [if_neg c71] at H
                exact absurd H (by simp)
              ·rw [if_neg c69] at H
               exact absurd H (by simp)
             ·rw [if_neg c68] at H
              exact absurd H (by simp)
            ·rw [if_neg c67] at H
             have c67b1:(a0_2 !=0)=true:=bne_iff_ne.mpr c67
             by_cases c75:x3_3.size+2≤9223372036854775807
             ·rw [if_pos c75] at H
              try have c75b2:(9223372036854775807<x3_3.size+2)=False:=eq_false (Nat.not_lt.2 c75)
              replace H:=Option.bind_eq_some_iff.mp H
              obtain ⟨t231,A760,H⟩:=H
              have A76:=aM A760
              clear A760
              by_cases c77:(x3_3++(⟨#[32,64]⟩:ByteArray)).size+t231.size≤9223372036854775807
              ·rw [if_pos c77] at H
               try have c77b2:(9223372036854775807<(x3_3++(⟨#[32,64]⟩:ByteArray)).size+t231.size)=False:=eq_false (Nat.not_lt.2 c77)
               try (have c77b3:=c77b2;simp only [ByteArray.size_append,show ((⟨#[32,64]⟩:ByteArray)).size=2 from rfl] at c77b3)
               by_cases c78:((x3_3++(⟨#[32,64]⟩:ByteArray))++t231).size+1≤9223372036854775807
               ·rw [if_pos c78] at H
                try have c78b2:(9223372036854775807<((x3_3++(⟨#[32,64]⟩:ByteArray))++t231).size+1)=False:=eq_false (Nat.not_lt.2 c78)
                try (have c78b3:=c78b2;simp only [ByteArray.size_append,show ((⟨#[32,64]⟩:ByteArray)).size=2 from rfl] at c78b3)
                by_cases c79:(((x3_3++(⟨#[32,64]⟩:ByteArray))++t231)++(⟨#[32]⟩:ByteArray)).size+a0_6.size≤9223372036854775807
                ·rw [if_pos c79] at H
                 try have c79b2:(9223372036854775807<(((x3_3++(⟨#[32,64]⟩:ByteArray))++t231)++(⟨#[32]⟩:ByteArray)).size+a0_6.size)=False:=eq_false (Nat.not_lt.2 c79)
                 try (have c79b3:=c79b2;simp only [ByteArray.size_append,show ((⟨#[32,64]⟩:ByteArray)).size=2 from rfl,show ((⟨#[32]⟩:ByteArray)).size=1 from rfl] at c79b3)
                 replace H:=Option.bind_eq_some_iff.mp H
                 obtain ⟨t232,A800,H⟩:=H
                 have A80:=aM A800
                 clear A800
                 by_cases c81:((((x3_3++(⟨#[32,64]⟩:ByteArray))++t231)++(⟨#[32]⟩:ByteArray))++a0_6).size+t232.size≤9223372036854775807
                 ·rw [if_pos c81] at H
                  try have c81b2:(9223372036854775807<((((x3_3++(⟨#[32,64]⟩:ByteArray))++t231)++(⟨#[32]⟩:ByteArray))++a0_6).size+t232.size)=False:=eq_false (Nat.not_lt.2 c81)
                  try (have c81b3:=c81b2;simp only [ByteArray.size_append,show ((⟨#[32,64]⟩:ByteArray)).size=2 from rfl,show ((⟨#[32]⟩:ByteArray)).size=1 from rfl] at c81b3)
                  obtain rfl:=Option.some.inj H
                  have hcz82_2:wc.cell? ⟨gb217,2,none⟩=some (.int .i64 a0_2):=(blk_cell BK217.out 2).trans rfl
                  try go_wp2_with (first | ((with_reducible refine gate_callee (f:=44) rfl ?_);refine goesL_ (some 97) rfl rfl Try.func44 (by kernel_rfl) rfl #[.int .i64 a0_2] rfl zA ?_;(with_reducible refine (r01_Print.calls kj30 a0_2 t231 _ A76.out).mono ?_);rintro e w83 ⟨rfl,hb⟩;refine ⟨_,rfl,?_⟩;have n0_:=aM (blk_below (g:=gb217) (o:=.cells #[.int .i64 a0_0,.int .i64 a0_1,.int .i64 a0_2,.int .i64 a0_3,.slice A0_4 l0_4.length c0_4,.slice A0_5 l0_5.length c0_5,.string a0_6,.int .i64 a0_7] 39 (0,0)) (zK BK217.out) hb);have n1_:=aM (below_step (zC HB.out GE217.out) hb);clear BK217;clear HB;have BK217:=n0_;have HB:=n1_;clear n0_ n1_;(try clear hb);(try clear hb2);(try clear hk);(try clear hi)))
                  have n0_:=aM (blk_drew BK217.out)
                  have n1_:=aM (below_drew1 HB.out)
                  clear BK217 HB
                  have BK217:=n0_
                  have HB:=n1_
                  clear n0_ n1_
                  refine start_ (n:=10) (S:=fun w'=>w'.cell? ⟨gb217,0,none⟩=some (.int .i64 a0_0)∧w'.cell? ⟨gb217,1,none⟩=some (.int .i64 a0_1)∧w'.cell? ⟨gb217,2,none⟩=some (.int .i64 a0_2)∧w'.cell? ⟨gb217,3,none⟩=some (.int .i64 a0_3)∧w'.cell? ⟨gb217,4,none⟩=some (.slice A0_4 l0_4.length c0_4)∧w'.cell? ⟨gb217,5,none⟩=some (.slice A0_5 l0_5.length c0_5)∧w'.cell? ⟨gb217,6,none⟩=some (.string a0_6)∧w'.cell? ⟨gb217,7,none⟩=some (.int .i64 a0_7)) (ds:=[]) #[false,false,false,false,false,false,false,false,false,false] (by kernel_rfl) rfl rfl ⟨(blk_cell BK217.out 0).trans rfl,(blk_cell BK217.out 1).trans rfl,(blk_cell BK217.out 2).trans rfl,(blk_cell BK217.out 3).trans rfl,(blk_cell BK217.out 4).trans rfl,(blk_cell BK217.out 5).trans rfl,(blk_cell BK217.out 6).trans rfl,(blk_cell BK217.out 7).trans rfl⟩ (fun hHeld=>?_);refine with_tabW r07_Instr.tab27 r07_Instr.bits27 (fun HT_ HW_=>?_)
                  generalize w83.drew=w84 at BK217 HB hHeld ⊢
                  refine pure_ (i:=0) (N:=some 99) (v:=?_) (a':=?_) #[true,false,false,false,false,false,false,false,false,false] rfl rfl (any_of HT_.out (by kernel_rfl)) (fun _ _ _ h=>h) (Or.inl ⟨by rfl,?_⟩) ?_ ?_
                  rotate_left
                  ·intro w'
                   go_simp
                   with_reducible rfl
                  rotate_left
                  ·simp only [Act.put,qA,qB,qC,i64_w,i32_w]
                   rfl
                  refine pure_ (i:=1) (N:=some 100) (v:=?_) (a':=?_) #[true,true,false,false,false,false,false,false,false,false] rfl rfl (any_of HT_.out (by kernel_rfl)) (fun _ _ _ h=>h) (Or.inl ⟨by rfl,?_⟩) ?_ ?_
                  rotate_left
                  ·intro w'
                   go_simp
                   with_reducible rfl
                  rotate_left
                  ·simp only [Act.put,qA,qB,qC,i64_w,i32_w]
                   rfl
                  refine pure_ (i:=2) (N:=some 101) (v:=?_) (a':=?_) #[true,true,true,false,false,false,false,false,false,false] rfl rfl (any_of HT_.out (by kernel_rfl)) (fun _ _ _ h=>h) (Or.inl ⟨by rfl,?_⟩) ?_ ?_
                  rotate_left
                  ·intro w'
                   go_simp
                   with_reducible rfl
                  rotate_left
                  ·simp only [Act.put,qA,qB,qC,i64_w,i32_w]
                   rfl
                  refine pure_ (i:=5) (N:=some 104) (v:=?_) (a':=?_) #[true,true,true,false,false,true,false,false,false,false] rfl rfl (any_of HT_.out (by kernel_rfl)) (fun _ _ _ h=>h) (Or.inl ⟨by rfl,?_⟩) ?_ ?_
                  rotate_left
                  ·intro w'
                   go_simp
                   with_reducible rfl
                  rotate_left
                  ·simp only [Act.put,qA,qB,qC,i64_w,i32_w]
                   rfl
                  refine take_ (i:=3) (N:=some 102) (v:=?_) (a':=?_) #[true,true,true,true,false,true,false,false,false,false] rfl rfl (take_ofW HT_.out HW_.out (by kernel_rfl)) (fun _ _ _ h=>h) (Or.inl ⟨by rfl,?_⟩) hHeld ?_ ?_
                  rotate_left
                  ·rintro w' ⟨s0,s1,s2,s3,s4,s5,s6,s7⟩
                   go_simp
                   with_reducible rfl
                  rotate_left
                  ·simp only [Act.put,qA,qB,qC,i64_w,i32_w]
                   rfl
                  refine pure_ (i:=4) (N:=some 103) (v:=?_) (a':=?_) #[true,true,true,true,true,true,false,false,false,false] rfl rfl (any_of HT_.out (by kernel_rfl)) (fun _ _ _ h=>h) (Or.inl ⟨by rfl,?_⟩) ?_ ?_
                  rotate_left
                  ·intro w'
                   go_simp
                   with_reducible rfl
                  rotate_left
                  ·simp only [Act.put,qA,qB,qC,i64_w,i32_w]
                   rfl
                  refine take_ (i:=6) (N:=some 105) (v:=?_) (a':=?_) #[true,true,true,true,true,true,true,false,false,false] rfl rfl (take_ofW HT_.out HW_.out (by kernel_rfl)) (fun _ _ _ h=>h) (Or.inl ⟨by rfl,?_⟩) hHeld ?_ ?_
                  rotate_left
                  ·rintro w' ⟨s0,s1,s2,s3,s4,s5,s6,s7⟩
                   go_simp
                   with_reducible rfl
                  rotate_left
                  ·simp only [Act.put,qA,qB,qC,i64_w,i32_w]
                   rfl
                  refine one_ (i:=7) (N:=some 106) #[true,true,true,true,true,true,true,true,false,false] rfl rfl (one_of HT_.out (by kernel_rfl)) (by decide) (fun K hK=>?_)
                  refine goes_ Try.func45 (by kernel_rfl) rfl #[.slice A0_4 l0_4.length c0_4,.int .i64 0] (by rfl) rfl rfl zA ?_
                  with_reducible refine (r07_args.calls kj30 _ _ l0_4 0 t232 _ ?side1 ?side2 A80.out).mono ?_
                  (case side1=>repeat (first | exact (Kd.C_below HR0_4.out HB.out) | (with_reducible refine Kd.C_alloc ?_ _) | (with_reducible refine Kd.C_drewN ?_ _) | (with_reducible refine Kd.C_drew ?_)))
                  (case side2=>exact HC0_4.out)
                  rintro e w85 ⟨rfl,hb⟩
                  refine ⟨_,rfl,?_⟩
                  have n0_:=aM (blk_below (g:=gb217) (o:=.cells #[.int .i64 a0_0,.int .i64 a0_1,.int .i64 a0_2,.int .i64 a0_3,.slice A0_4 l0_4.length c0_4,.slice A0_5 l0_5.length c0_5,.string a0_6,.int .i64 a0_7] 39 (0,0)) (zK BK217.out) hb)
                  have n1_:=aM (below_step (zC HB.out GE217.out) hb)
                  clear BK217 HB
                  have BK217:=n0_
                  have HB:=n1_
                  clear n0_ n1_
                  (try clear hb)
                  (try clear hb2)
                  (try clear hk)
                  (try clear hi)
                  refine hK.out _ _ ⟨(blk_cell BK217.out 0).trans rfl,(blk_cell BK217.out 1).trans rfl,(blk_cell BK217.out 2).trans rfl,(blk_cell BK217.out 3).trans rfl,(blk_cell BK217.out 4).trans rfl,(blk_cell BK217.out 5).trans rfl,(blk_cell BK217.out 6).trans rfl,(blk_cell BK217.out 7).trans rfl⟩ (fun hHeld=>?_)
                  clear hK K
                  refine norm_ (a':=?_) ?_ ?_
                  rotate_left
                  ·show Act.put _ (some 106) _=_
                   simp only [Act.put,qA,qB,qC,i64_w,i32_w]
                   rfl
                  refine pure_ (i:=8) (N:=some 107) (v:=?_) (a':=?_) #[true,true,true,true,true,true,true,true,true,false] rfl rfl (any_of HT_.out (by kernel_rfl)) (fun _ _ _ h=>h) (Or.inl ⟨by rfl,?_⟩) ?_ ?_
                  rotate_left
                  ·intro w'
                   go_simp
                   with_reducible rfl
                  rotate_left
                  ·simp only [Act.put,qA,qB,qC,i64_w,i32_w]
                   rfl
                  refine pure_ (i:=9) (N:=some 2) (v:=?_) (a':=?_) #[true,true,true,true,true,true,true,true,true,true] rfl rfl (any_of HT_.out (by kernel_rfl)) (fun _ _ _ h=>h) (Or.inl ⟨by rfl,?_⟩) ?_ ?_
                  rotate_left
                  ·intro w'
                   go_simp
                   with_reducible rfl
                  rotate_left
                  ·simp only [Act.put,qA,qB,qC,i64_w,i32_w]
                   rfl
                  refine done_ (done_of HT_.out (by kernel_rfl)) ?_
                  try go_wp2
                  go_ret
                  exact ⟨zF,zC HB.out GE217.out⟩
                 ·rw [if_neg c81] at H
                  exact absurd H (by simp)
                ·rw [if_neg c79] at H
                 exact absurd H (by simp)
               ·rw [if_neg c78] at H
                exact absurd H (by simp)
              ·rw [if_neg c77] at H
               exact absurd H (by simp)
             ·rw [if_neg c75] at H
              exact absurd H (by simp)
           ·rw [if_neg c66] at H
            have c66b0:(a0_0==21)=false:=beq_eq_false_iff_ne.mpr c66
            replace H:=Option.bind_eq_some_iff.mp H
            obtain ⟨t233,A860,H⟩:=H
            have A86:=aM A860
            clear A860
            by_cases c87:x3_3.size+t233.size≤9223372036854775807
            ·rw [if_pos c87] at H
             try have c87b2:(9223372036854775807<x3_3.size+t233.size)=False:=eq_false (Nat.not_lt.2 c87)
             have H':=aM H
             clear H
             have hcz88_4:wc.cell? ⟨gb217,4,none⟩=some (.slice A0_4 l0_4.length c0_4):=(blk_cell BK217.out 4).trans rfl
             go_wp2_with (first | ((with_reducible refine gate_callee (f:=45) rfl ?_);refine goesL_ (some 111) rfl rfl Try.func45 (by kernel_rfl) rfl #[.slice A0_4 l0_4.length c0_4,.int .i64 0] rfl zA ?_;(with_reducible refine (r07_args.calls kj30 _ _ l0_4 0 t233 _ ?side1 ?side2 A86.out).mono ?_);(case side1=>repeat (first | exact (Kd.C_below HR0_4.out HB.out) | (with_reducible refine Kd.C_alloc ?_ _) | (with_reducible refine Kd.C_drewN ?_ _) | (with_reducible refine Kd.C_drew ?_)));(case side2=>exact HC0_4.out);rintro e w89 ⟨rfl,hb⟩;refine ⟨_,rfl,?_⟩;have n0_:=aM (blk_below (g:=gb217) (o:=.cells #[.int .i64 a0_0,.int .i64 a0_1,.int .i64 a0_2,.int .i64 a0_3,.slice A0_4 l0_4.length c0_4,.slice A0_5 l0_5.length c0_5,.string a0_6,.int .i64 a0_7] 39 (0,0)) (zK BK217.out) hb);have n1_:=aM (below_step (zC HB.out GE217.out) hb);clear BK217;clear HB;have BK217:=n0_;have HB:=n1_;clear n0_ n1_;(try clear hb);(try clear hb2);(try clear hk);(try clear hi)))
             go_loopg [3,5] kj30 (fun kq v3 v5 w'=>∃ (x3_4:ByteArray) (x5_4:Int),v3=.string x3_4∧v5=.int .i64 x5_4∧Aside0 (r07_Instr.l1 kq x3_4 x5_4 a0_0 a0_1 a0_2 a0_3 l0_4 l0_5 a0_6 a0_7=some r)∧Aside0 (kq≤kj30)∧Aside0 (w'.heap[gb217]?=some (.cells #[.int .i64 a0_0,.int .i64 a0_1,.int .i64 a0_2,.int .i64 a0_3,(.slice A0_4 l0_4.length c0_4),(.slice A0_5 l0_5.length c0_5),.string a0_6,.int .i64 a0_7] 39 (0,0)))∧Aside0 (Below w.heap.size w w'))
             case atStart=>exact ⟨(x3_3++t233),(0),(by first | rfl | (simp;done) | (simp [*];done)),(by first | rfl | (simp;done) | (simp [*];done)),H',⟨Nat.le_refl _⟩,⟨zK BK217.out⟩,⟨zC HB.out GE217.out⟩⟩
             case round=>
              clear H' c51 c51b0 c66 c66b0 c87 c87b2 hcz88_4
              obtain ⟨x3_4,x5_4,rfl,rfl,HA,HK4,BK217,HB⟩:=hrel
              cases gk with
              | zero=>exact absurd HA.out (by simp [r07_Instr.l1])
              | succ k4=>
               have H:=HA.out
               clear HA
               simp only [r07_Instr.l1] at H
               by_cases c90:x5_4<(l0_5.length:Int)
               ·rw [if_pos c90] at H
                have c90b0:decide (x5_4<(l0_5.length:Int))=true:=decide_eq_true c90
                clear c90
                by_cases c91:x3_4.size+2≤9223372036854775807
                ·rw [if_pos c91] at H
                 try have c91b2:(9223372036854775807<x3_4.size+2)=False:=eq_false (Nat.not_lt.2 c91)
                 by_cases c92:0≤x5_4
                 ·rw [if_pos c92] at H
                  have c92b0:decide (0≤x5_4)=true:=decide_eq_true c92
                  clear c92
                  replace H:=Option.bind_eq_some_iff.mp H
                  obtain ⟨t235,A930,H⟩:=H
                  have A93:=aM A930
                  clear A930
                  by_cases c94:(x3_4++(⟨#[32,98]⟩:ByteArray)).size+t235.size≤9223372036854775807
                  ·rw [if_pos c94] at H
                   try have c94b2:(9223372036854775807<(x3_4++(⟨#[32,98]⟩:ByteArray)).size+t235.size)=False:=eq_false (Nat.not_lt.2 c94)
                   try (have c94b3:=c94b2;simp only [ByteArray.size_append,show ((⟨#[32,98]⟩:ByteArray)).size=2 from rfl] at c94b3)
                   have H':=aM H
                   clear H
                   have hcz95_5:wr.cell? ⟨gb217,5,none⟩=some (.slice A0_5 l0_5.length c0_5):=(blk_cell BK217.out 5).trans rfl
                   have p234:0≤(x5_4:Int):=of_decide_eq_true zS
                   have q234:x5_4<(l0_5.length:Int):=of_decide_eq_true zS
                   obtain ⟨ad234,e234,hx234_0⟩:=Kd.at_int HR0_5.out x5_4 p234 q234
                   cases e234
                   replace hx234_0:=(HB.out.cell (World.block_lt_of_cell? w _ hx234_0)).trans hx234_0
                   replace p234:=eq_true p234
                   replace q234:=eq_true q234
                   go_wp2_with (first | ((with_reducible refine gate_callee (f:=36) rfl ?_);refine goesL_ (some 127) rfl rfl Try.func36 (by kernel_rfl) rfl #[.int .i64 (rd l0_5 x5_4)] rfl zA ?_;(with_reducible refine (r07_small.calls k4 (rd l0_5 x5_4) t235 _ A93.out).mono ?_);rintro e w96 ⟨rfl,hb⟩;refine ⟨_,rfl,?_⟩;have n0_:=aM (blk_below (g:=gb217) (o:=.cells #[.int .i64 a0_0,.int .i64 a0_1,.int .i64 a0_2,.int .i64 a0_3,.slice A0_4 l0_4.length c0_4,.slice (some ad234) l0_5.length c0_5,.string a0_6,.int .i64 a0_7] 39 (0,0)) (zK BK217.out) hb);have n1_:=aM (below_step (zC HB.out GE217.out) hb);clear BK217;clear HB;have BK217:=n0_;have HB:=n1_;clear n0_ n1_;(try clear hb);(try clear hb2);(try clear hk);(try clear hi)))
                   go_roundg k4
                   case measure=>have:=HJ3.out;have:=HJ16.out;have:=HJ30.out;have:=HK4.out;omega
                   case rel=>exact ⟨((x3_4++(⟨#[32,98]⟩:ByteArray))++t235),(wrap64 (x5_4+1)),(by first | rfl | (simp;done) | (simp [*];done)),(by first | rfl | (simp;done) | (simp [*];done)),H',⟨by have:=HJ3.out;have:=HJ16.out;have:=HJ30.out;have:=HK4.out;omega⟩,⟨zK BK217.out⟩,⟨zC HB.out GE217.out⟩⟩
                  ·rw [if_neg c94] at H
                   exact absurd H (by simp)
                 ·rw [if_neg c92] at H
                  exact absurd H (by simp)
                ·rw [if_neg c91] at H
                 exact absurd H (by simp)
               ·rw [if_neg c90] at H
                have c90b0:decide (x5_4<(l0_5.length:Int))=false:=decide_eq_false c90
                clear c90
                obtain rfl:=Option.some.inj H
                have hcz97_5:wr.cell? ⟨gb217,5,none⟩=some (.slice A0_5 l0_5.length c0_5):=(blk_cell BK217.out 5).trans rfl
                go_wp2
                go_ret
                exact ⟨zF,zC HB.out GE217.out⟩
            ·rw [if_neg c87] at H
             exact absurd H (by simp)
end Go.Proofs.Ytkjdblbgmomieaa.PSh
end
