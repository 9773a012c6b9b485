import Derived.Test.YtkjdblbgmomieaaMc2
import Derived.Test.YtkjdblbgmomieaaMc11
import Derived.Deep.WholeRow
import Derived.KernelRfl
import Derived.Laws.CopyOwn
-- from YtkjdblbgmomieaaHRows
section
namespace Go.Proofs.Ytkjdblbgmomieaa.PSh
open Go.RowKit Go.Proofs.YtkjdblbgmomieaaW.PrintWords Go.Proofs.YtkjdblbgmomieaaW.PrintLast Go.Proofs.YtkjdblbgmomieaaW.PrintMore Go.Proofs.Ytkjdblbgmomieaa.Str
set_option linter.unusedVariables false
set_option linter.unusedSimpArgs false
structure OpRow where
 w:ByteArray
 t0:Int
 t1:Int
 m:Int
 traps:Bool
 reads:Bool
 writes:Bool
 seen:Bool
 ends:Bool
def noRow:OpRow:=⟨mk [],0,0,0,false,false,false,false,false⟩
def opRows:List OpRow:=[
 ⟨mk [],0,0,0,false,false,false,false,false⟩,
 ⟨mk [99,111,110,115,116],0,0,1,false,false,false,false,false⟩,
 ⟨mk [97,100,100],1,1,1,false,false,false,false,false⟩,
 ⟨mk [115,117,98],1,1,1,false,false,false,false,false⟩,
 ⟨mk [109,117,108],1,1,1,false,false,false,false,false⟩,
 ⟨mk [100,105,118],1,1,1,true,false,false,false,false⟩,
 ⟨mk [108,116],1,1,1,false,false,false,false,false⟩,
 ⟨mk [101,113],1,1,1,false,false,false,false,false⟩,
 ⟨mk [110,105,108],0,0,2,false,false,false,false,false⟩,
 ⟨mk [115,97,109,101],2,2,1,false,false,false,false,false⟩,
 ⟨mk [110,101,119],0,0,2,false,false,false,false,false⟩,
 ⟨mk [108,111,97,100,46,105],2,0,1,true,true,false,false,false⟩,
 ⟨mk [108,111,97,100,46,112],2,0,2,true,true,false,false,false⟩,
 ⟨mk [115,116,111,114,101,46,105],2,1,0,true,false,true,true,false⟩,
 ⟨mk [115,116,111,114,101,46,112],2,2,0,true,false,true,true,false⟩,
 ⟨mk [115,108,111,116],2,0,3,true,false,false,false,false⟩,
 ⟨mk [103,101,116,46,105],3,0,1,true,true,false,false,false⟩,
 ⟨mk [103,101,116,46,112],3,0,2,true,true,false,false,false⟩,
 ⟨mk [112,117,116,46,105],3,1,0,true,false,true,true,false⟩,
 ⟨mk [112,117,116,46,112],3,2,0,true,false,true,true,false⟩,
 ⟨mk [112,104,105],0,0,0,false,false,false,false,false⟩,
 ⟨mk [99,97,108,108],0,0,0,true,true,true,true,false⟩,
 ⟨mk [111,117,116],1,0,0,false,false,false,true,false⟩,
 ⟨mk [112,111,108,108],0,0,0,false,false,false,true,false⟩,
 ⟨mk [114,101,108,111,99],0,0,0,false,false,false,false,false⟩,
 ⟨mk [109,97,114,107],2,0,0,false,false,false,true,false⟩,
 ⟨mk [98,114],0,0,0,false,false,false,true,true⟩,
 ⟨mk [105,102],1,0,0,false,false,false,true,true⟩,
 ⟨mk [114,101,116],0,0,0,false,false,false,true,true⟩,
 ⟨mk [102,97,105,108],0,0,0,true,false,false,true,true⟩]
def rowCells (r:OpRow):List Value:=[.string r.w,.int .i64 r.t0,.int .i64 r.t1,.int .i64 r.m,.bool r.traps,.bool r.reads,.bool r.writes,.bool r.seen,.bool r.ends]
def rowsV:Array Value:=(opRows.flatMap rowCells).toArray
def zerosV:Array Value:=((List.replicate 30 noRow).flatMap rowCells).toArray
theorem wpList_buildTo1 {P:Program} {ops:Array Oper} {rest:List Oper} {o:Oper} {a:Act} {w:World} {Q:Exit→Act→World→Prop} (hg:o.guard=none) (t:TypeId) (parts:Array (Nat × Operand)) (ho:o.op=.build t parts) (cells:Array Value)
  (hf:P.built t (parts.map fun (i,x)=>(i,a.eval x)).toList=some cells)
  (h:wpList P ops Q rest (a.put o.dst (.agg cells)) w):wpList P ops Q (o::rest) a w:=by
 refine wpList_build hg t parts ho ?_ ?_
 ·rw [hf];rfl
 ·rw [hf];exact h
theorem wpList_store_newR {P:Program} {ops:Array Oper} {rest:List Oper} {o:Oper} {a:Act} {w:World} {Q:Exit→Act→World→Prop} (hgd:o.guard=none) (ty:TypeId) (x y:Operand) (ho:o.op=.store ty x y)
  (old cells:Array Value) (hx:a.eval x=.pointer (some ⟨w.heap.size,0,none⟩)) (hy:a.eval y=.agg cells)
  (t:TypeId) (hi:(P.info? ty).map (·.size)=some cells.size) (hold:old.size=cells.size) (h1:cells.all (·.oneCell')=true)
  (h:wpList P ops Q rest (a.put o.dst undef) (w.alloc (.cells cells t))):wpList P ops Q (o::rest) a (w.alloc (.cells old t)):=by
 refine wpList_store_row hgd ty x y ho w.heap.size cells hx hy t old (heap_alloc_last _ _) hi hold h1 ?_
 rw [World.setRow_alloc_new]
 exact h
set_option maxHeartbeats 4000000 in
set_option maxRecDepth 100000 in
theorem ops_rows.calls (w:World):Calls Try.prog 93 #[] w fun e w'=>e=.returned (.agg rowsV)∧Below w.heap.size w w':=by
 have hz:=(zero_of_info (P:=Try.prog) (t:=114) (v:=.agg zerosV) (n:=270) (by kernel_rfl)).1
 go_enter Try.func93,Try.ntmps93
 go_wp2_with (first | ((with_reducible refine gate_dst (N:=49) rfl ?_);refine wpList_buildTo1 rfl 114 _ rfl rowsV (by kernel_rfl) ?_) | ((with_reducible refine gate_store (t:=114) (p:=0) (v:=.tmp 49) rfl ?_);refine wpList_store_newR rfl 114 (.tmp 0) (.tmp 49) rfl zerosV rowsV rfl rfl 114 (by kernel_rfl) (by kernel_rfl) (by kernel_rfl) ?_))
 refine bodyPost_ret (results_single rfl (Vals.cell w.heap.size 114 rowsV (0,0) _ rfl (blk_new w _) Try.underlying114 rfl (by kernel_rfl) Vals.nil)) rfl ⟨rfl,below_alloc (Below.refl _ _) _⟩
end Go.Proofs.Ytkjdblbgmomieaa.PSh
end
-- from YtkjdblbgmomieaaHOf
section
namespace Go.Proofs.Ytkjdblbgmomieaa.PSh
open Go.RowKit Go.Proofs.YtkjdblbgmomieaaW.PrintWords Go.Proofs.YtkjdblbgmomieaaW.PrintLast Go.Proofs.YtkjdblbgmomieaaW.PrintMore Go.Proofs.Ytkjdblbgmomieaa.Str
set_option linter.unusedVariables false
set_option linter.unusedSimpArgs false
theorem run_index_rows (n:Nat) (hn:n<30) (w:World):(Instr.index 114 (.agg rowsV) (.int .i64 n)).run Try.prog w=.ok (.agg (rowCells (opRows.getD n noRow)).toArray) w:=by
 have h:n=0∨n=1∨n=2∨n=3∨n=4∨n=5∨n=6∨n=7∨n=8∨n=9∨n=10∨n=11∨n=12∨n=13∨n=14∨n=15∨n=16∨n=17∨n=18∨n=19∨n=20∨n=21∨n=22∨n=23∨n=24∨n=25∨n=26∨n=27∨n=28∨n=29:=by omega
 rcases h with rfl | rfl | rfl | rfl | rfl | rfl | rfl | rfl | rfl | rfl | rfl | rfl | rfl | rfl | rfl | rfl | rfl | rfl | rfl | rfl | rfl | rfl | rfl | rfl | rfl | rfl | rfl | rfl | rfl | rfl<;>(show _=_;kernel_rfl)
def opOf (op:Int):OpRow:=if op<1∨29<op then noRow else opRows.getD op.toNat noRow
def ops_of.f (a0:Int):Option (ByteArray × Int × Int × Int × Bool × Bool × Bool × Bool × Bool):=
 some ((opOf a0).w,(opOf a0).t0,(opOf a0).t1,(opOf a0).m,(opOf a0).traps,(opOf a0).reads,(opOf a0).writes,(opOf a0).seen,(opOf a0).ends)
set_option maxHeartbeats 4000000 in
set_option maxRecDepth 100000 in
theorem of_calls (a0:Int) (w:World):Calls Try.prog 69 #[.int .i64 a0] w fun e w'=>e=.returned (.agg (rowCells (opOf a0)).toArray)∧Below w.heap.size w w':=by
 by_cases h1:a0<1
 ·have d1:decide (a0<1)=true:=decide_eq_true h1
  have e:opOf a0=noRow:=if_pos (.inl h1)
  rw [e]
  clear e h1
  go_enter Try.func69,Try.ntmps69
  go_wp2
  refine bodyPost_ret (results_single rfl (Vals.cell w.heap.size 96 (rowCells noRow).toArray (0,0) _ rfl (blk_new w _) Try.underlying96 rfl (by kernel_rfl) Vals.nil)) rfl ⟨rfl,below_alloc (Below.refl _ _) _⟩
 ·have d1:decide (a0<1)=false:=decide_eq_false h1
  by_cases h2:29<a0
  ·have d2:decide (29<a0)=true:=decide_eq_true h2
   have e:opOf a0=noRow:=if_pos (.inr h2)
   rw [e]
   clear e h1 h2
   go_enter Try.func69,Try.ntmps69
   go_wp2
   refine bodyPost_ret (results_single rfl (Vals.cell w.heap.size 96 (rowCells noRow).toArray (0,0) _ rfl (blk_new w _) Try.underlying96 rfl (by kernel_rfl) Vals.nil)) rfl ⟨rfl,below_alloc (Below.refl _ _) _⟩
  ·have d2:decide (29<a0)=false:=decide_eq_false h2
   obtain ⟨n,rfl⟩:∃ n:Nat,a0=n:=⟨a0.toNat,by omega⟩
   have hn:n<30:=by omega
   obtain ⟨r,hr⟩:∃ r,opRows.getD n noRow=r:=⟨_,rfl⟩
   have hix:∀ W,(Instr.index 114 (.agg rowsV) (.int .i64 n)).run Try.prog W=.ok (.agg (rowCells r).toArray) W:=fun W=>hr ▸ run_index_rows n hn W
   have e:opOf (n:Int)=opRows.getD n noRow:=if_neg (by omega)
   rw [e,hr]
   clear e h1 h2 hr
   go_enter Try.func69,Try.ntmps69
   go_wp2_with fail
   refine (ops_rows.calls _).mono ?_
   rintro e w1 ⟨rfl,hb⟩
   have HB:=Aside0.mk hb
   have h1:=blk_below (blk_new w (.cells #[.string ⟨#[]⟩,.int .i64 0,.int .i64 0,.int .i64 0,.bool false,.bool false,.bool false,.bool false,.bool false] 96)) hb
   have H1:=Aside0.mk h1
   have HB:=Aside0.mk (below_step (below_alloc (Below.refl _ _) _) hb)
   clear h1 hb
   go_wp2_with (first | ((with_reducible refine gate_store (t:=96) (p:=2) (v:=.tmp 12) rfl ?_);refine wpList_store_row rfl 96 (.tmp 2) (.tmp 12) rfl w.heap.size (rowCells r).toArray rfl rfl 96 _ H1.out (by kernel_rfl) rfl (by simp [rowCells,Value.oneCell']) ?_))
   refine bodyPost_ret (results_single rfl (Vals.cell w.heap.size 96 (rowCells r).toArray (0,0) _ rfl (setRow_heap _ _ _ _ _ _ H1.out) Try.underlying96 rfl (by kernel_rfl) Vals.nil)) rfl ⟨rfl,below_setRow HB.out (Nat.le_refl _) _⟩
theorem ops_of.calls (a0:Int) (r1:ByteArray) (r2 r3 r4:Int) (r5 r6 r7 r8 r9:Bool) (w:World) (h:ops_of.f a0=some (r1,r2,r3,r4,r5,r6,r7,r8,r9)):
  Calls Try.prog 69 #[.int .i64 a0] w fun e w'=>e=.returned (.agg #[.string r1,.int .i64 r2,.int .i64 r3,.int .i64 r4,.bool r5,.bool r6,.bool r7,.bool r8,.bool r9])∧Below w.heap.size w w':=by
 have h0:=Option.some.inj h
 simp only [Prod.mk.injEq] at h0
 obtain ⟨rfl,rfl,rfl,rfl,rfl,rfl,rfl,rfl,rfl⟩:=h0
 exact of_calls a0 w
end Go.Proofs.Ytkjdblbgmomieaa.PSh
end
-- from YtkjdblbgmomieaaHTakes
section
namespace Go.Proofs.Ytkjdblbgmomieaa.PSh
open Go.RowKit Go.Proofs.YtkjdblbgmomieaaW.PrintWords Go.Proofs.YtkjdblbgmomieaaW.PrintLast Go.Proofs.YtkjdblbgmomieaaW.PrintMore Go.Proofs.Ytkjdblbgmomieaa.Str
set_option linter.unusedVariables false
set_option linter.unusedSimpArgs false
def nz (t:Int):List Int:=if t=0 then [] else [t]
theorem nz_zero:nz 0=[]:=rfl
theorem nz_some {t:Int} (h:t≠0):nz t=[t]:=if_neg h
def takesTo (i:Nat) (a b:Int):List Int:=if i=0 then [] else if i=1 then nz a else nz a++nz b
theorem takesTo0 (a b:Int):takesTo 0 a b=[]:=rfl
theorem takesTo1 (a b:Int):takesTo 1 a b=nz a:=rfl
theorem takesTo2 (a b:Int):takesTo 2 a b=nz a++nz b:=rfl
def ops_Takes.f (a0:Int):Option (List Int):=some (nz (opOf a0).t0++nz (opOf a0).t1)
set_option maxHeartbeats 2000000 in
set_option maxRecDepth 100000 in
theorem ops_Takes.calls (a0:Int) (r:List Int) (w:World) (h:ops_Takes.f a0=some r):
  Calls Try.prog 46 #[.int .i64 a0] w fun e w'=>∃ v0_:Value,e=.returned (v0_)∧Kd.R (Kd.int .i64) 3 w' w.heap.size (fun _=>True) v0_ r∧Below w.heap.size w w':=by
 obtain rfl:=Option.some.inj h
 clear h
 have hu85:=Try.underlying94
 have hof:=fun W=>of_calls a0 W
 have hfd:∀ (o:OpRow) (W:World),(Instr.field 96 (.agg (rowCells o).toArray) 1).run Try.prog W=.ok (.agg #[.int .i64 o.t0,.int .i64 o.t1]) W:=fun _ _=>by show _=_;kernel_rfl
 have hx0:∀ (a b:Int) (W:World),(Instr.index 94 (.agg #[.int .i64 a,.int .i64 b]) (.int .i64 ((0:Nat):Int))).run Try.prog W=.ok (.int .i64 a) W:=fun _ _ _=>by show _=_;kernel_rfl
 have hx1:∀ (a b:Int) (W:World),(Instr.index 94 (.agg #[.int .i64 a,.int .i64 b]) (.int .i64 ((1:Nat):Int))).run Try.prog W=.ok (.int .i64 b) W:=fun _ _ _=>by show _=_;kernel_rfl
 have hy0:∀ (a b:Int) (W:World),(Instr.index 94 (.agg #[.int .i64 a,.int .i64 b]) (.int .i64 0)).run Try.prog W=.ok (.int .i64 a) W:=fun _ _ _=>by show _=_;kernel_rfl
 have hy1:∀ (a b:Int) (W:World),(Instr.index 94 (.agg #[.int .i64 a,.int .i64 b]) (.int .i64 1)).run Try.prog W=.ok (.int .i64 b) W:=fun _ _ _=>by show _=_;kernel_rfl
 obtain ⟨o,ho⟩:∃ o,opOf a0=o:=⟨_,rfl⟩
 rw [ho] at hof ⊢
 clear ho
 go_enter Try.func46,Try.ntmps46
 go_wp2_with fail
 refine (hof _).mono ?_
 rintro e w0 ⟨rfl,hb⟩
 have HB0:=Aside0.mk hb
 clear hb hof
 go_wp2
 go_loopg [3,9] 2 (fun kq v3 v9 w'=>∃ i:Nat,v9=.int .i64 i∧Aside0 (i≤2)∧Aside0 (Kd.R (Kd.int .i64) 3 w' w.heap.size (fun _=>True) v3 (takesTo i o.t0 o.t1))∧Aside0 (Below w.heap.size w w')∧Aside0 (kq=2 - i))
 case atStart=>exact ⟨0,rfl,⟨by omega⟩,⟨Kd.R_nil _ _ _ _ _⟩,HB0,⟨rfl⟩⟩
 case round=>
  obtain ⟨i,rfl,HI,HR,HB,HK⟩:=hrel
  have hi:=HI.out
  by_cases hi2:i<2
  ·have hi3:i=0∨i=1:=by omega
   clear hi hi2
   rcases hi3 with rfl | rfl
   ·rw [takesTo0] at HR
    by_cases hz:o.t0=0
    ·have hzb:(o.t0 !=0)=false:=bne_eq_false_iff_eq.mpr hz
     go_wp2
     go_roundg 1
     case measure=>have:=HK.out;omega
     case rel=>
      refine ⟨1,rfl,⟨by omega⟩,?_,HB,⟨rfl⟩⟩
      rw [takesTo1,hz];exact HR
    ·have hzb:(o.t0 !=0)=true:=bne_iff_ne.mpr hz
     obtain ⟨A0,q0,rfl⟩:=Kd.R_slice HR.out
     go_wp2_with (at_builtin;refine Kd.R_append (Kd.int .i64) (w0:=w) (W:=wr) w.heap.size rfl (.tmp 14) (.tmp 16) 31 3 (.int .i64 0) 8 rfl Try.underlying31 info3 rfl (by decide) (by omega) (.slice A0 ([]:List Int).length q0) ([]:List Int) o.t0 [.int .i64 o.t0] (fun _=>True) (fun _=>False) rfl rfl rfl (fun _ hk=>hk.elim) (fun _ _=>trivial) HR.out HB.out HB.out.size (by simp) ?_;intro v2 w2 ho2 hb2 hg2 hat2;have HO2:=Aside0.mk ho2;have HB2:=Aside0.mk hb2;clear ho2 hb2 hg2 hat2)
     go_roundg 1
     case measure=>have:=HK.out;omega
     case rel=>
      refine ⟨1,rfl,⟨by omega⟩,⟨?_⟩,HB2,⟨rfl⟩⟩
      rw [takesTo1,nz_some hz];exact HO2.out
   ·rw [takesTo1] at HR
    by_cases hz:o.t1=0
    ·have hzb:(o.t1 !=0)=false:=bne_eq_false_iff_eq.mpr hz
     go_wp2
     go_roundg 0
     case measure=>have:=HK.out;omega
     case rel=>
      refine ⟨2,rfl,⟨by omega⟩,?_,HB,⟨rfl⟩⟩
      rw [takesTo2,hz,nz_zero,List.append_nil];exact HR
    ·have hzb:(o.t1 !=0)=true:=bne_iff_ne.mpr hz
     obtain ⟨A0,q0,rfl⟩:=Kd.R_slice HR.out
     go_wp2_with (at_builtin;refine Kd.R_append (Kd.int .i64) (w0:=w) (W:=wr) w.heap.size rfl (.tmp 14) (.tmp 16) 31 3 (.int .i64 0) 8 rfl Try.underlying31 info3 rfl (by decide) (by omega) (.slice A0 (nz o.t0).length q0) (nz o.t0) o.t1 [.int .i64 o.t1] (fun _=>True) (fun _=>False) rfl rfl rfl (fun _ hk=>hk.elim) (fun _ _=>trivial) HR.out HB.out HB.out.size (by unfold nz;split<;>simp) ?_;intro v2 w2 ho2 hb2 hg2 hat2;have HO2:=Aside0.mk ho2;have HB2:=Aside0.mk hb2;clear ho2 hb2 hg2 hat2)
     go_roundg 0
     case measure=>have:=HK.out;omega
     case rel=>
      refine ⟨2,rfl,⟨by omega⟩,⟨?_⟩,HB2,⟨rfl⟩⟩
      rw [takesTo2,nz_some hz];exact HO2.out
  ·have hi3:i=2:=by omega
   subst hi3
   clear hi hi2
   rw [takesTo2] at HR
   go_wp2
   go_ret
   exact ⟨_,rfl,HR.out,HB.out⟩
end Go.Proofs.Ytkjdblbgmomieaa.PSh
end
