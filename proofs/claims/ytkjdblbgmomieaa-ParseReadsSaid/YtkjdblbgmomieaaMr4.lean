import Derived.Test.YtkjdblbgmomieaaMr2
import Derived.Test.YtkjdblbgmomieaaMr3
-- from YtkjdblbgmomieaaPShx27
section
namespace Go.Proofs.Ytkjdblbgmomieaa.PSh
set_option maxHeartbeats 8000000
set_option maxRecDepth 100000
open Go.RowKit Go.Proofs.YtkjdblbgmomieaaW.PrintWords Go.Proofs.YtkjdblbgmomieaaW.PrintLast Go.Proofs.YtkjdblbgmomieaaW.PrintMore Go.Proofs.Ytkjdblbgmomieaa.Zip
attribute [local go_sem] max2_int min2_int max_two min_two max_three min_three max_four min_four   -- for this text's walks alone
set_option linter.unusedVariables false
set_option linter.unusedSimpArgs false
def IsS82 (w0 W:World) (g:Nat) (f0:List (S101)) (f1:Int) (f2:Int) (f3:Int):Prop:=∃ A0 c0,W.heap[g]?=some (.cells #[.slice A0 f0.length c0,.int .i64 f1,.int .i64 f2,.int .i64 f3] 82 (0,0))∧w0.heap.size≤g∧Kd.C k101 w0 A0 f0.length f0
theorem IsS82.grown {w0 W:World} {g:Nat} {f0:List (S101)} {f1:Int} {f2:Int} {f3:Int} {W1:World} {row:Option Nat} (h:IsS82 w0 W g f0 f1 f2 f3) (hw:W.grownBy W1 row) (hne:some g≠row):IsS82 w0 W1 g f0 f1 f2 f3:=by
 obtain ⟨A0,c0,hb,hg,hr0⟩:=h
 exact ⟨A0,c0,blk_grown hb hw hne,hg,hr0⟩
theorem IsS82.kept {w0 W:World} {g:Nat} {f0:List (S101)} {f1:Int} {f2:Int} {f3:Int} {W1:World} {S:Nat→Prop} (h:IsS82 w0 W g f0 f1 f2 f3) (hk:Kept W W1 S) (hne:¬ S g):IsS82 w0 W1 g f0 f1 f2 f3:=by
 obtain ⟨A0,c0,hb,hg,hr0⟩:=h
 exact ⟨A0,c0,blk_kept hb hk hne,hg,hr0⟩
theorem IsS82.below {w0 W:World} {g:Nat} {f0:List (S101)} {f1:Int} {f2:Int} {f3:Int} {W1:World} (h:IsS82 w0 W g f0 f1 f2 f3) (hw:Below W.heap.size W W1):IsS82 w0 W1 g f0 f1 f2 f3:=h.grown (grown_of_below hw none) (by simp)
theorem IsS82.alloc {w0 W:World} {g:Nat} {f0:List (S101)} {f1:Int} {f2:Int} {f3:Int} (h:IsS82 w0 W g f0 f1 f2 f3) (o:Obj):IsS82 w0 (W.alloc o) g f0 f1 f2 f3:=h.below (below_alloc (Below.refl _ _) o)
theorem IsS82.drewN {w0 W:World} {g:Nat} {f0:List (S101)} {f1:Int} {f2:Int} {f3:Int} (h:IsS82 w0 W g f0 f1 f2 f3) (m:Nat):IsS82 w0 (W.drewN m) g f0 f1 f2 f3:=h
theorem IsS82.drew {w0 W:World} {g:Nat} {f0:List (S101)} {f1:Int} {f2:Int} {f3:Int} (h:IsS82 w0 W g f0 f1 f2 f3):IsS82 w0 W.drew g f0 f1 f2 f3:=h
theorem IsS82.at_ {w0 W:World} {g:Nat} {f0:List (S101)} {f1:Int} {f2:Int} {f3:Int} {w':World} {m:Nat} (hq:W.drewN m=w') (h:IsS82 w0 W g f0 f1 f2 f3):IsS82 w0 w' g f0 f1 f2 f3:=by subst hq;exact IsS82.drewN h m
theorem IsS82.apart {w0 W:World} {g:Nat} {f0:List (S101)} {f1:Int} {f2:Int} {f3:Int} {α:Type} {d:Kd α} {e:Nat} {base:Nat} {ok:Nat→Prop} {v:Value} {xs:List α} (h:IsS82 w0 W g f0 f1 f2 f3) (ho:d.R e W base ok v xs) (ht:∀ q,q∈e::d.E→q≠82):d.R e W base (fun k=>ok k∧k≠g) v xs:=by
 obtain ⟨A0,c0,hb,hg,hr0⟩:=h
 exact Kd.R_types ho hb ht
theorem IsS82.own_ne {w0 W:World} {g:Nat} {f0:List (S101)} {f1:Int} {f2:Int} {f3:Int} {α:Type} {d:Kd α} {e:Nat} {base:Nat} {ok:Nat→Prop} {v:Value} {xs:List α} (h:IsS82 w0 W g f0 f1 f2 f3) (ho:d.R e W base ok v xs) (ht:e≠82):some g≠v.ownBlock:=by
 obtain ⟨A0,c0,hb,hg,hr0⟩:=h
 exact Kd.R_ne ho hb ht
theorem IsS82.lt {w0 W:World} {g:Nat} {f0:List (S101)} {f1:Int} {f2:Int} {f3:Int} (h:IsS82 w0 W g f0 f1 f2 f3):g<W.heap.size:=by
 obtain ⟨A0,c0,hb,hg,hr0⟩:=h
 exact blk_lt hb
theorem IsS82.ge {w0 W:World} {g:Nat} {f0:List (S101)} {f1:Int} {f2:Int} {f3:Int} (h:IsS82 w0 W g f0 f1 f2 f3):w0.heap.size≤g:=by
 obtain ⟨A0,c0,hb,hg,hr0⟩:=h
 exact hg
theorem IsS82.far {w0 W:World} {g:Nat} {f0:List (S101)} {f1:Int} {f2:Int} {f3:Int} {p:Addr} (h:IsS82 w0 W g f0 f1 f2 f3) (hne:g≠p.block) (u:Value):IsS82 w0 (W.setCell p u) g f0 f1 f2 f3:=by
 obtain ⟨A0,c0,hb,hg,hr0⟩:=h
 exact ⟨A0,c0,blk_far hb hne u,hg,hr0⟩
theorem cellS82_0 {W:World} {g:Nat} {A0:Option Addr} {c0:Nat} {f0:List (S101)} {f1:Int} {f2:Int} {f3:Int} (h:W.heap[g]?=some (.cells #[.slice A0 f0.length c0,.int .i64 f1,.int .i64 f2,.int .i64 f3] 82 (0,0))):W.cell? ⟨g,0,none⟩=some (.slice A0 f0.length c0):=(blk_cell h 0).trans rfl
theorem cellS82_1 {W:World} {g:Nat} {A0:Option Addr} {c0:Nat} {f0:List (S101)} {f1:Int} {f2:Int} {f3:Int} (h:W.heap[g]?=some (.cells #[.slice A0 f0.length c0,.int .i64 f1,.int .i64 f2,.int .i64 f3] 82 (0,0))):W.cell? ⟨g,1,none⟩=some (.int .i64 f1):=(blk_cell h 1).trans rfl
theorem IsS82.set_1 {w0 W:World} {g:Nat} {f0:List (S101)} {f1:Int} {f2:Int} {f3:Int} (h:IsS82 w0 W g f0 f1 f2 f3) (x:Int):IsS82 w0 (W.setCell ⟨g,1,none⟩ (.int .i64 x)) g f0 x f2 f3:=by
 obtain ⟨A0,c0,hb,hg,hr0⟩:=h
 exact ⟨A0,c0,by simpa using blk_set hb 1 (.int .i64 x),hg,hr0⟩
theorem cellS82_2 {W:World} {g:Nat} {A0:Option Addr} {c0:Nat} {f0:List (S101)} {f1:Int} {f2:Int} {f3:Int} (h:W.heap[g]?=some (.cells #[.slice A0 f0.length c0,.int .i64 f1,.int .i64 f2,.int .i64 f3] 82 (0,0))):W.cell? ⟨g,2,none⟩=some (.int .i64 f2):=(blk_cell h 2).trans rfl
theorem IsS82.set_2 {w0 W:World} {g:Nat} {f0:List (S101)} {f1:Int} {f2:Int} {f3:Int} (h:IsS82 w0 W g f0 f1 f2 f3) (x:Int):IsS82 w0 (W.setCell ⟨g,2,none⟩ (.int .i64 x)) g f0 f1 x f3:=by
 obtain ⟨A0,c0,hb,hg,hr0⟩:=h
 exact ⟨A0,c0,by simpa using blk_set hb 2 (.int .i64 x),hg,hr0⟩
theorem cellS82_3 {W:World} {g:Nat} {A0:Option Addr} {c0:Nat} {f0:List (S101)} {f1:Int} {f2:Int} {f3:Int} (h:W.heap[g]?=some (.cells #[.slice A0 f0.length c0,.int .i64 f1,.int .i64 f2,.int .i64 f3] 82 (0,0))):W.cell? ⟨g,3,none⟩=some (.int .i64 f3):=(blk_cell h 3).trans rfl
theorem IsS82.set_3 {w0 W:World} {g:Nat} {f0:List (S101)} {f1:Int} {f2:Int} {f3:Int} (h:IsS82 w0 W g f0 f1 f2 f3) (x:Int):IsS82 w0 (W.setCell ⟨g,3,none⟩ (.int .i64 x)) g f0 f1 f2 x:=by
 obtain ⟨A0,c0,hb,hg,hr0⟩:=h
 exact ⟨A0,c0,by simpa using blk_set hb 3 (.int .i64 x),hg,hr0⟩
theorem IsS82.new (w0 W:World) (A0:Option Addr) (c0:Nat) (f0:List (S101)) (f1:Int) (f2:Int) (f3:Int) (hB:Below w0.heap.size w0 W) (hr0:Kd.C k101 w0 A0 f0.length f0):IsS82 w0 (W.alloc (.cells #[.slice A0 f0.length c0,.int .i64 f1,.int .i64 f2,.int .i64 f3] 82)) W.heap.size f0 f1 f2 f3:=⟨A0,c0,by simpa using heap_alloc_new W _,hB.size,hr0⟩
def parse_reader_here.f (s0_0:List (S101)) (s0_1:Int) (s0_2:Int) (s0_3:Int):Option (Int × Int × Int × Int):=if s0_1<(s0_0.length:Int) then (if 0≤s0_1 then (some ((rd_T101 s0_0 s0_1).f1,s0_1,s0_2,s0_3)) else (none)) else (some (s0_2,s0_1,s0_2,s0_3))
theorem parse_reader_here.calls (g:Nat) (s0_0:List (S101)) (s0_1:Int) (s0_2:Int) (s0_3:Int) (r1:Int) (r2:Int) (r3:Int) (r4:Int) (w0 w:World) (hI:IsS82 w0 w g s0_0 s0_1 s0_2 s0_3) (hB:Below w0.heap.size w0 w) (h:parse_reader_here.f s0_0 s0_1 s0_2 s0_3=some (r1,r2,r3,r4)):
  Calls Try.prog 76 #[.pointer (some ⟨g,0,none⟩)] w fun e w'=>e=.returned (.int .i64 r1)∧IsS82 w0 w' g s0_0 r2 r3 r4∧Below w0.heap.size w0 w'∧KeepBut w w' g none:=by
 have HI0:=aM hI
 have HK:=aM (KeepBut.refl w g none)
 have HL:=aM hB.size
 clear hI
 have HW0:=aM hB.size
 have HB:=aM hB
 clear hB
 have H:(if s0_1<(s0_0.length:Int) then (if 0≤s0_1 then (some ((rd_T101 s0_0 s0_1).f1,s0_1,s0_2,s0_3)) else (none)) else (some (s0_2,s0_1,s0_2,s0_3)))=some (r1,r2,r3,r4):=h
 clear h
 by_cases c2:s0_1<(s0_0.length:Int)
 ·rw [if_pos c2] at H
  have c2b0:decide (s0_1<(s0_0.length:Int))=true:=decide_eq_true c2
  clear c2
  by_cases c3:0≤s0_1
  ·rw [if_pos c3] at H
   have c3b0:decide (0≤s0_1)=true:=decide_eq_true c3
   clear c3
   simp only [Option.some.injEq,Prod.mk.injEq] at H
   obtain ⟨rfl,rfl,rfl,rfl⟩:=H
   obtain ⟨ASz4_0,cSz4_0,HGz4,hgz4,HSz4_0⟩:=HI0.out
   have hcz4_0:=cellS82_0 HGz4
   have hcz4_1:=cellS82_1 HGz4
   have hcz4_2:=cellS82_2 HGz4
   have hcz4_3:=cellS82_3 HGz4
   have hfz4_1:=blk_frozen HGz4 1
   have hfz4_2:=blk_frozen HGz4 2
   have hfz4_3:=blk_frozen HGz4 3
   clear HGz4 hgz4
   have p395:0≤(s0_1:Int):=of_decide_eq_true zS
   have q395:s0_1<(s0_0.length:Int):=of_decide_eq_true zS
   obtain ⟨ad395,e395,hx395_0,hx395_1⟩:=at_T101 HSz4_0 s0_1 p395 q395
   cases e395
   replace hx395_0:=pw_cell_below HB.out hx395_0
   replace hx395_1:=pw_cell_below HB.out hx395_1
   replace p395:=eq_true p395
   replace q395:=eq_true q395
   go_enter Try.func76,Try.ntmps76
   go_wp2
   repeat (go_quiet (fail);try go_wp2)
   go_ret
   exact ⟨zF,by repeat (first | (with_reducible first | exact HI0.out | apply IsS82.alloc | apply IsS82.drewN | apply IsS82.drew | apply IsS82.set_1 | apply IsS82.set_2 | apply IsS82.set_3) | exact HI0.out),zC HB.out (IsS82.ge HI0.out),by repeat (first | (with_reducible first | exact HK.out | apply KeepBut.set_ | apply keep_drewN | apply keep_drew | apply keep_alloc) | exact HK.out)⟩
  ·rw [if_neg c3] at H
   exact absurd H (by simp)
 ·rw [if_neg c2] at H
  have c2b0:decide (s0_1<(s0_0.length:Int))=false:=decide_eq_false c2
  clear c2
  simp only [Option.some.injEq,Prod.mk.injEq] at H
  obtain ⟨rfl,rfl,rfl,rfl⟩:=H
  obtain ⟨ASz5_0,cSz5_0,HGz5,hgz5,HSz5_0⟩:=HI0.out
  have hcz5_0:=cellS82_0 HGz5
  have hcz5_1:=cellS82_1 HGz5
  have hcz5_2:=cellS82_2 HGz5
  have hcz5_3:=cellS82_3 HGz5
  have hfz5_1:=blk_frozen HGz5 1
  have hfz5_2:=blk_frozen HGz5 2
  have hfz5_3:=blk_frozen HGz5 3
  clear HGz5 hgz5
  go_enter Try.func76,Try.ntmps76
  go_wp2
  repeat (go_quiet (fail);try go_wp2)
  go_ret
  exact ⟨zF,by repeat (first | (with_reducible first | exact HI0.out | apply IsS82.alloc | apply IsS82.drewN | apply IsS82.drew | apply IsS82.set_1 | apply IsS82.set_2 | apply IsS82.set_3) | exact HI0.out),zC HB.out (IsS82.ge HI0.out),by repeat (first | (with_reducible first | exact HK.out | apply KeepBut.set_ | apply keep_drewN | apply keep_drew | apply keep_alloc) | exact HK.out)⟩
def parse_reader_peek.f (s0_0:List (S101)) (s0_1:Int) (s0_2:Int) (s0_3:Int) (a1:Int):Option (ByteArray × Int × Int × Int):=if (wrap64 (s0_1+a1))<(s0_0.length:Int) then (if 0≤(wrap64 (s0_1+a1)) then (some ((rd_T101 s0_0 (wrap64 (s0_1+a1))).f0,s0_1,s0_2,s0_3)) else (none)) else (some ((⟨#[]⟩:ByteArray),s0_1,s0_2,s0_3))
theorem parse_reader_peek.calls (g:Nat) (s0_0:List (S101)) (s0_1:Int) (s0_2:Int) (s0_3:Int) (a1:Int) (r1:ByteArray) (r2:Int) (r3:Int) (r4:Int) (w0 w:World) (hI:IsS82 w0 w g s0_0 s0_1 s0_2 s0_3) (hB:Below w0.heap.size w0 w) (h:parse_reader_peek.f s0_0 s0_1 s0_2 s0_3 a1=some (r1,r2,r3,r4)):
  Calls Try.prog 79 #[.pointer (some ⟨g,0,none⟩),.int .i64 a1] w fun e w'=>e=.returned (.string r1)∧IsS82 w0 w' g s0_0 r2 r3 r4∧Below w0.heap.size w0 w'∧KeepBut w w' g none:=by
 have HI0:=aM hI
 have HK:=aM (KeepBut.refl w g none)
 have HL:=aM hB.size
 clear hI
 have HW0:=aM hB.size
 have HB:=aM hB
 clear hB
 have H:(if (wrap64 (s0_1+a1))<(s0_0.length:Int) then (if 0≤(wrap64 (s0_1+a1)) then (some ((rd_T101 s0_0 (wrap64 (s0_1+a1))).f0,s0_1,s0_2,s0_3)) else (none)) else (some ((⟨#[]⟩:ByteArray),s0_1,s0_2,s0_3)))=some (r1,r2,r3,r4):=h
 clear h
 by_cases c3:(wrap64 (s0_1+a1))<(s0_0.length:Int)
 ·rw [if_pos c3] at H
  have c3b0:decide ((wrap64 (s0_1+a1))<(s0_0.length:Int))=true:=decide_eq_true c3
  clear c3
  obtain ⟨ji4,hji4⟩:∃ j_:Int,(wrap64 (s0_1+a1))=j_:=⟨_,rfl⟩
  replace H:(if 0≤(ji4) then (some ((rd_T101 s0_0 (ji4)).f0,s0_1,s0_2,s0_3)) else (none))=some (r1,r2,r3,r4):=by first | (rw [hji4] at H;exact H) | (simp only [hji4] at H ⊢;exact H)
  (try rw [hji4] at c3b0)
  have hji4w:(IntKind.i64.wrap (s0_1+a1))=ji4:=(i64_w _).trans hji4
  by_cases c5:0≤(ji4)
  ·rw [if_pos c5] at H
   have c5b0:decide (0≤(ji4))=true:=decide_eq_true c5
   clear c5
   simp only [Option.some.injEq,Prod.mk.injEq] at H
   obtain ⟨rfl,rfl,rfl,rfl⟩:=H
   obtain ⟨ASz6_0,cSz6_0,HGz6,hgz6,HSz6_0⟩:=HI0.out
   have hcz6_0:=cellS82_0 HGz6
   have hcz6_1:=cellS82_1 HGz6
   have hcz6_2:=cellS82_2 HGz6
   have hcz6_3:=cellS82_3 HGz6
   have hfz6_1:=blk_frozen HGz6 1
   have hfz6_2:=blk_frozen HGz6 2
   have hfz6_3:=blk_frozen HGz6 3
   clear HGz6 hgz6
   have p400:0≤((ji4):Int):=of_decide_eq_true zS
   have q400:(ji4)<(s0_0.length:Int):=of_decide_eq_true zS
   obtain ⟨ad400,e400,hx400_0,hx400_1⟩:=at_T101 HSz6_0 (ji4) p400 q400
   cases e400
   replace hx400_0:=pw_cell_below HB.out hx400_0
   replace hx400_1:=pw_cell_below HB.out hx400_1
   replace p400:=eq_true p400
   replace q400:=eq_true q400
   go_enter Try.func79,Try.ntmps79
   go_wp2
   repeat (go_quiet (fail);try go_wp2)
   go_ret
   exact ⟨by first | rfl | (simp [errW_none,errW_some]<;>rfl) | (simp only [← hji4];first | rfl | (simp [errW_none,errW_some]<;>rfl)) | (simp [*,errW_none,errW_some]<;>rfl),by repeat (first | (with_reducible first | exact HI0.out | apply IsS82.alloc | apply IsS82.drewN | apply IsS82.drew | apply IsS82.set_1 | apply IsS82.set_2 | apply IsS82.set_3) | exact HI0.out),zC HB.out (IsS82.ge HI0.out),by repeat (first | (with_reducible first | exact HK.out | apply KeepBut.set_ | apply keep_drewN | apply keep_drew | apply keep_alloc) | exact HK.out)⟩
  ·rw [if_neg c5] at H
   exact absurd H (by simp)
 ·rw [if_neg c3] at H
  have c3b0:decide ((wrap64 (s0_1+a1))<(s0_0.length:Int))=false:=decide_eq_false c3
  clear c3
  simp only [Option.some.injEq,Prod.mk.injEq] at H
  obtain ⟨rfl,rfl,rfl,rfl⟩:=H
  obtain ⟨ASz7_0,cSz7_0,HGz7,hgz7,HSz7_0⟩:=HI0.out
  have hcz7_0:=cellS82_0 HGz7
  have hcz7_1:=cellS82_1 HGz7
  have hcz7_2:=cellS82_2 HGz7
  have hcz7_3:=cellS82_3 HGz7
  have hfz7_1:=blk_frozen HGz7 1
  have hfz7_2:=blk_frozen HGz7 2
  have hfz7_3:=blk_frozen HGz7 3
  clear HGz7 hgz7
  go_enter Try.func79,Try.ntmps79
  go_wp2
  repeat (go_quiet (fail);try go_wp2)
  go_ret
  exact ⟨zF,by repeat (first | (with_reducible first | exact HI0.out | apply IsS82.alloc | apply IsS82.drewN | apply IsS82.drew | apply IsS82.set_1 | apply IsS82.set_2 | apply IsS82.set_3) | exact HI0.out),zC HB.out (IsS82.ge HI0.out),by repeat (first | (with_reducible first | exact HK.out | apply KeepBut.set_ | apply keep_drewN | apply keep_drew | apply keep_alloc) | exact HK.out)⟩
def parse_types.f (a0:ByteArray) (a1:Bool):Option (Int):=if a0.toList=([105]:List UInt8) then (some 1) else (if a0.toList=([112]:List UInt8) then (some 2) else (if a0.toList=([110]:List UInt8) then (if a1=true then (some 0) else (some (-1))) else (some (-1))))
theorem parse_types.calls (a0:ByteArray) (a1:Bool) (r:Int) (w:World) (h:parse_types.f a0 a1=some r):
  Calls Try.prog 80 #[.string a0,.bool a1] w fun e w'=>e=.returned (.int .i64 r)∧Drawn0 w w':=by
 have H:(if a0.toList=([105]:List UInt8) then (some 1) else (if a0.toList=([112]:List UInt8) then (some 2) else (if a0.toList=([110]:List UInt8) then (if a1=true then (some 0) else (some (-1))) else (some (-1)))))=some r:=h
 clear h
 by_cases c3:a0.toList=([105]:List UInt8)
 ·rw [if_pos c3] at H
  have c3b0:(a0.toList==([105]:List UInt8))=true:=beq_iff_eq.mpr c3
  have c3b1:(a0.toList !=([105]:List UInt8))=false:=bne_eq_false_iff_eq.mpr c3
  clear c3
  obtain rfl:=Option.some.inj H
  go_enter Try.func80,Try.ntmps80
  go_wp2
  go_ret
  exact ⟨by first | rfl | (simp;done) | (simp [*];done),zQ⟩
 ·rw [if_neg c3] at H
  have c3b0:(a0.toList==([105]:List UInt8))=false:=beq_eq_false_iff_ne.mpr c3
  have c3b1:(a0.toList !=([105]:List UInt8))=true:=bne_iff_ne.mpr c3
  by_cases c4:a0.toList=([112]:List UInt8)
  ·rw [if_pos c4] at H
   have c4b0:(a0.toList==([112]:List UInt8))=true:=beq_iff_eq.mpr c4
   have c4b1:(a0.toList !=([112]:List UInt8))=false:=bne_eq_false_iff_eq.mpr c4
   clear c4
   obtain rfl:=Option.some.inj H
   go_enter Try.func80,Try.ntmps80
   go_wp2
   go_ret
   exact ⟨by first | rfl | (simp;done) | (simp [*];done),zQ⟩
  ·rw [if_neg c4] at H
   have c4b0:(a0.toList==([112]:List UInt8))=false:=beq_eq_false_iff_ne.mpr c4
   have c4b1:(a0.toList !=([112]:List UInt8))=true:=bne_iff_ne.mpr c4
   by_cases c5:a0.toList=([110]:List UInt8)
   ·rw [if_pos c5] at H
    have c5b0:(a0.toList==([110]:List UInt8))=true:=beq_iff_eq.mpr c5
    have c5b1:(a0.toList !=([110]:List UInt8))=false:=bne_eq_false_iff_eq.mpr c5
    clear c5
    by_cases c6:a1=true
    ·subst c6
     have H1:(some 0)=some r:=by rw [if_pos rfl] at H;exact H
     clear H
     have H:=H1
     clear H1
     obtain rfl:=Option.some.inj H
     go_enter Try.func80,Try.ntmps80
     go_wp2
     go_ret
     exact ⟨by first | rfl | (simp;done) | (simp [*];done),zQ⟩
    ·replace c6:=Bool.eq_false_iff.mpr c6
     subst c6
     have H1:(some (-1))=some r:=by rw [if_neg (show ¬ (false=true) by decide)] at H;exact H
     clear H
     have H:=H1
     clear H1
     obtain rfl:=Option.some.inj H
     go_enter Try.func80,Try.ntmps80
     go_wp2
     go_ret
     exact ⟨by first | rfl | (simp;done) | (simp [*];done),zQ⟩
   ·rw [if_neg c5] at H
    have c5b0:(a0.toList==([110]:List UInt8))=false:=beq_eq_false_iff_ne.mpr c5
    have c5b1:(a0.toList !=([110]:List UInt8))=true:=bne_iff_ne.mpr c5
    obtain rfl:=Option.some.inj H
    go_enter Try.func80,Try.ntmps80
    go_wp2
    go_ret
    exact ⟨by first | rfl | (simp;done) | (simp [*];done),zQ⟩
end Go.Proofs.Ytkjdblbgmomieaa.PSh
end
-- from YtkjdblbgmomieaaPShx30
section
namespace Go.Proofs.Ytkjdblbgmomieaa.PSh
set_option maxHeartbeats 8000000
set_option maxRecDepth 100000
open Go.RowKit Go.Proofs.YtkjdblbgmomieaaW.PrintWords Go.Proofs.YtkjdblbgmomieaaW.PrintLast Go.Proofs.YtkjdblbgmomieaaW.PrintMore Go.Proofs.Ytkjdblbgmomieaa.Zip
attribute [local go_sem] max2_int min2_int max_two min_two max_three min_three max_four min_four   -- for this text's walks alone
set_option linter.unusedVariables false
set_option linter.unusedSimpArgs false
def parse_reader_values.f (s0_0:List (S101)) (s0_1:Int) (s0_2:Int) (s0_3:Int):Option (Bool × Int × Int × Int):=(parse_reader_peek.f s0_0 s0_1 s0_2 s0_3 0).bind fun bt422=>(if (bt422.1.size:Int)>0 then (if 0<(bt422.1.size:Int) then (if (bt bt422.1 0)=37 then ((parse_reader_peek.f s0_0 bt422.2.1 bt422.2.2.1 bt422.2.2.2 1).bind fun bt426=>(some ((bt426.1.toList !=([61]:List UInt8)),bt426.2.1,bt426.2.2.1,bt426.2.2.2))) else (some (false,bt422.2.1,bt422.2.2.1,bt422.2.2.2))) else (none)) else (some (false,bt422.2.1,bt422.2.2.1,bt422.2.2.2)))
theorem parse_reader_values.calls (g:Nat) (s0_0:List (S101)) (s0_1:Int) (s0_2:Int) (s0_3:Int) (r1:Bool) (r2:Int) (r3:Int) (r4:Int) (w0 w:World) (hI:IsS82 w0 w g s0_0 s0_1 s0_2 s0_3) (hB:Below w0.heap.size w0 w) (h:parse_reader_values.f s0_0 s0_1 s0_2 s0_3=some (r1,r2,r3,r4)):
  Calls Try.prog 108 #[.pointer (some ⟨g,0,none⟩)] w fun e w'=>e=.returned (.bool r1)∧IsS82 w0 w' g s0_0 r2 r3 r4∧Below w0.heap.size w0 w'∧KeepBut w w' g none:=by
 have HI0:=aM hI
 have HK:=aM (KeepBut.refl w g none)
 have HL:=aM hB.size
 clear hI
 have HW0:=aM hB.size
 have HB:=aM hB
 clear hB
 have H:((parse_reader_peek.f s0_0 s0_1 s0_2 s0_3 0).bind fun bt422=>(if (bt422.1.size:Int)>0 then (if 0<(bt422.1.size:Int) then (if (bt bt422.1 0)=37 then ((parse_reader_peek.f s0_0 bt422.2.1 bt422.2.2.1 bt422.2.2.2 1).bind fun bt426=>(some ((bt426.1.toList !=([61]:List UInt8)),bt426.2.1,bt426.2.2.1,bt426.2.2.2))) else (some (false,bt422.2.1,bt422.2.2.1,bt422.2.2.2))) else (none)) else (some (false,bt422.2.1,bt422.2.2.1,bt422.2.2.2))))=some (r1,r2,r3,r4):=h
 clear h
 replace H:=Option.bind_eq_some_iff.mp H
 obtain ⟨⟨t422,t423,t424,t425⟩,A20,H⟩:=H
 have A2:=aM A20
 clear A20
 by_cases c3:(t422.size:Int)>0
 ·rw [if_pos c3] at H
  have c3b0:decide (0<(t422.size:Int))=true:=decide_eq_true c3
  have c3b1:decide (0<t422.size)=true:=decide_eq_true (by omega)
  clear c3
  by_cases c4:0<(t422.size:Int)
  ·rw [if_pos c4] at H
   have c4b0:decide (0<(t422.size:Int))=true:=decide_eq_true c4
   have c4b1:decide (0<t422.size)=true:=decide_eq_true (by omega)
   clear c4
   by_cases c6:(bt t422 0)=37
   ·rw [if_pos c6] at H
    have c6b0:((bt t422 0)==37)=true:=beq_iff_eq.mpr c6
    have c6b1:((bt t422 0) !=37)=false:=bne_eq_false_iff_eq.mpr c6
    clear c6
    replace H:=Option.bind_eq_some_iff.mp H
    obtain ⟨⟨t426,t427,t428,t429⟩,A70,H⟩:=H
    have A7:=aM A70
    clear A70
    simp only [Option.some.injEq,Prod.mk.injEq] at H
    obtain ⟨rfl,rfl,rfl,rfl⟩:=H
    go_enter Try.func108,Try.ntmps108
    go_wp2_with (first | ((with_reducible refine gate_callee (f:=79) rfl ?_);refine goesL_ (some 5) rfl rfl Try.func79 (by kernel_rfl) rfl #[.pointer (some ⟨g,0,none⟩),.int .i64 0] rfl zA ?_;(with_reducible refine (parse_reader_peek.calls g s0_0 s0_1 s0_2 s0_3 0 t422 t423 t424 t425 w0 _ ?side1 ?side2 A2.out).mono ?_);(case side1=>repeat (first | (with_reducible first | exact HI0.out | apply IsS82.alloc | apply IsS82.drewN | apply IsS82.drew | apply IsS82.set_1 | apply IsS82.set_2 | apply IsS82.set_3) | exact HI0.out));(case side2=>repeat (first | (with_reducible first | exact HB.out | apply below_alloc | apply pw_below_drewN | apply below_drew1 | refine below_set ?_ (IsS82.ge HI0.out)) | exact HB.out));rintro e w8 ⟨rfl,hi,hb,hk⟩;refine ⟨_,rfl,?_⟩;have n0_:=aM (KeepBut.trans (by repeat (first | (with_reducible first | exact HK.out | apply KeepBut.set_ | apply keep_drewN | apply keep_drew | apply keep_alloc) | exact HK.out)) hk (.inl rfl));have n1_:=aM (hb);have n2_:=aM (hi);clear HK;clear HB;clear HI0;have HK:=n0_;have HB:=n1_;have HI0:=n2_;clear n0_ n1_ n2_;(try clear hb);(try clear hb2);(try clear hk);(try clear hi);have p5:0≤(0:Int):=(by omega);have q5:0<t422.size:=(by have:(0:Int)<(t422.size:Int):=of_decide_eq_true zS;omega);have hx5:∀ h:0<t422.size,((t422[0]'h).toNat:Int)=bt t422 0:=bt_at t422 0;clear p5;have qi5:(0<(t422.size:Int))=True:=eq_true (of_decide_eq_true zS);replace q5:=eq_true q5) | (go_at_call 79;(with_reducible refine (parse_reader_peek.calls g s0_0 t423 t424 t425 1 t426 t427 t428 t429 w0 _ ?side1 ?side2 A7.out).mono ?_);(case side1=>repeat (first | (with_reducible first | exact HI0.out | apply IsS82.alloc | apply IsS82.drewN | apply IsS82.drew | apply IsS82.set_1 | apply IsS82.set_2 | apply IsS82.set_3) | exact HI0.out));(case side2=>repeat (first | (with_reducible first | exact HB.out | apply below_alloc | apply pw_below_drewN | apply below_drew1 | refine below_set ?_ (IsS82.ge HI0.out)) | exact HB.out));rintro e w9 ⟨rfl,hi,hb,hk⟩;have n0_:=aM (KeepBut.trans (by repeat (first | (with_reducible first | exact HK.out | apply KeepBut.set_ | apply keep_drewN | apply keep_drew | apply keep_alloc) | exact HK.out)) hk (.inl rfl));have n1_:=aM (hb);have n2_:=aM (hi);clear HK;clear HB;clear HI0;have HK:=n0_;have HB:=n1_;have HI0:=n2_;clear n0_ n1_ n2_;(try clear hb);(try clear hb2);(try clear hk);(try clear hi)))
    go_ret
    exact ⟨zF,by repeat (first | (with_reducible first | exact HI0.out | apply IsS82.alloc | apply IsS82.drewN | apply IsS82.drew | apply IsS82.set_1 | apply IsS82.set_2 | apply IsS82.set_3) | exact HI0.out),zC HB.out (IsS82.ge HI0.out),by repeat (first | (with_reducible first | exact HK.out | apply KeepBut.set_ | apply keep_drewN | apply keep_drew | apply keep_alloc) | exact HK.out)⟩
   ·rw [if_neg c6] at H
    have c6b0:((bt t422 0)==37)=false:=beq_eq_false_iff_ne.mpr c6
    have c6b1:((bt t422 0) !=37)=true:=bne_iff_ne.mpr c6
    simp only [Option.some.injEq,Prod.mk.injEq] at H
    obtain ⟨rfl,rfl,rfl,rfl⟩:=H
    go_enter Try.func108,Try.ntmps108
    go_wp2_with (first | ((with_reducible refine gate_callee (f:=79) rfl ?_);refine goesL_ (some 5) rfl rfl Try.func79 (by kernel_rfl) rfl #[.pointer (some ⟨g,0,none⟩),.int .i64 0] rfl zA ?_;(with_reducible refine (parse_reader_peek.calls g s0_0 s0_1 s0_2 s0_3 0 t422 t423 t424 t425 w0 _ ?side1 ?side2 A2.out).mono ?_);(case side1=>repeat (first | (with_reducible first | exact HI0.out | apply IsS82.alloc | apply IsS82.drewN | apply IsS82.drew | apply IsS82.set_1 | apply IsS82.set_2 | apply IsS82.set_3) | exact HI0.out));(case side2=>repeat (first | (with_reducible first | exact HB.out | apply below_alloc | apply pw_below_drewN | apply below_drew1 | refine below_set ?_ (IsS82.ge HI0.out)) | exact HB.out));rintro e w10 ⟨rfl,hi,hb,hk⟩;refine ⟨_,rfl,?_⟩;have n0_:=aM (KeepBut.trans (by repeat (first | (with_reducible first | exact HK.out | apply KeepBut.set_ | apply keep_drewN | apply keep_drew | apply keep_alloc) | exact HK.out)) hk (.inl rfl));have n1_:=aM (hb);have n2_:=aM (hi);clear HK;clear HB;clear HI0;have HK:=n0_;have HB:=n1_;have HI0:=n2_;clear n0_ n1_ n2_;(try clear hb);(try clear hb2);(try clear hk);(try clear hi);have p5:0≤(0:Int):=(by omega);have q5:0<t422.size:=(by have:(0:Int)<(t422.size:Int):=of_decide_eq_true zS;omega);have hx5:∀ h:0<t422.size,((t422[0]'h).toNat:Int)=bt t422 0:=bt_at t422 0;clear p5;have qi5:(0<(t422.size:Int))=True:=eq_true (of_decide_eq_true zS);replace q5:=eq_true q5))
    go_ret
    exact ⟨zF,by repeat (first | (with_reducible first | exact HI0.out | apply IsS82.alloc | apply IsS82.drewN | apply IsS82.drew | apply IsS82.set_1 | apply IsS82.set_2 | apply IsS82.set_3) | exact HI0.out),zC HB.out (IsS82.ge HI0.out),by repeat (first | (with_reducible first | exact HK.out | apply KeepBut.set_ | apply keep_drewN | apply keep_drew | apply keep_alloc) | exact HK.out)⟩
  ·rw [if_neg c4] at H
   exact absurd H (by simp)
 ·rw [if_neg c3] at H
  have c3b0:decide (0<(t422.size:Int))=false:=decide_eq_false c3
  have c3b1:decide (0<t422.size)=false:=decide_eq_false (by omega)
  clear c3
  simp only [Option.some.injEq,Prod.mk.injEq] at H
  obtain ⟨rfl,rfl,rfl,rfl⟩:=H
  go_enter Try.func108,Try.ntmps108
  go_wp2_with (first | ((with_reducible refine gate_callee (f:=79) rfl ?_);refine goesL_ (some 5) rfl rfl Try.func79 (by kernel_rfl) rfl #[.pointer (some ⟨g,0,none⟩),.int .i64 0] rfl zA ?_;(with_reducible refine (parse_reader_peek.calls g s0_0 s0_1 s0_2 s0_3 0 t422 t423 t424 t425 w0 _ ?side1 ?side2 A2.out).mono ?_);(case side1=>repeat (first | (with_reducible first | exact HI0.out | apply IsS82.alloc | apply IsS82.drewN | apply IsS82.drew | apply IsS82.set_1 | apply IsS82.set_2 | apply IsS82.set_3) | exact HI0.out));(case side2=>repeat (first | (with_reducible first | exact HB.out | apply below_alloc | apply pw_below_drewN | apply below_drew1 | refine below_set ?_ (IsS82.ge HI0.out)) | exact HB.out));rintro e w11 ⟨rfl,hi,hb,hk⟩;refine ⟨_,rfl,?_⟩;have n0_:=aM (KeepBut.trans (by repeat (first | (with_reducible first | exact HK.out | apply KeepBut.set_ | apply keep_drewN | apply keep_drew | apply keep_alloc) | exact HK.out)) hk (.inl rfl));have n1_:=aM (hb);have n2_:=aM (hi);clear HK;clear HB;clear HI0;have HK:=n0_;have HB:=n1_;have HI0:=n2_;clear n0_ n1_ n2_;(try clear hb);(try clear hb2);(try clear hk);(try clear hi)))
  go_ret
  exact ⟨zF,by repeat (first | (with_reducible first | exact HI0.out | apply IsS82.alloc | apply IsS82.drewN | apply IsS82.drew | apply IsS82.set_1 | apply IsS82.set_2 | apply IsS82.set_3) | exact HI0.out),zC HB.out (IsS82.ge HI0.out),by repeat (first | (with_reducible first | exact HK.out | apply KeepBut.set_ | apply keep_drewN | apply keep_drew | apply keep_alloc) | exact HK.out)⟩
end Go.Proofs.Ytkjdblbgmomieaa.PSh
end
-- from YtkjdblbgmomieaaPShx28
section
namespace Go.Proofs.Ytkjdblbgmomieaa.PSh
set_option maxHeartbeats 8000000
set_option maxRecDepth 100000
open Go.RowKit Go.Proofs.YtkjdblbgmomieaaW.PrintWords Go.Proofs.YtkjdblbgmomieaaW.PrintLast Go.Proofs.YtkjdblbgmomieaaW.PrintMore Go.Proofs.Ytkjdblbgmomieaa.Zip
attribute [local go_sem] max2_int min2_int max_two min_two max_three min_three max_four min_four   -- for this text's walks alone
set_option linter.unusedVariables false
set_option linter.unusedSimpArgs false
mutual
def digits_Parse.j0:Nat→ByteArray→Bool→Option (Int × Int)
 | 0,_,_=>none
 | k+1,x0,x4=>if x4=true then (if 1≤(x0.size:Int) then (digits_Parse.j1 k x4 (x0.extract 1 x0.size)) else (none)) else (digits_Parse.j1 k x4 x0)
def digits_Parse.j1:Nat→Bool→ByteArray→Option (Int × Int)
 | 0,_,_=>none
 | k+1,x4,x5=>if (x5.size:Int)=0 then (digits_Parse.j2 k x4 x5 true) else (if (x5.size:Int)>1 then (if 0<(x5.size:Int) then (if (bt x5 0)=48 then (digits_Parse.j2 k x4 x5 true) else (if x4=true then (digits_Parse.j2 k x4 x5 (x5.toList==([48]:List UInt8))) else (digits_Parse.j2 k x4 x5 false))) else (none)) else (if x4=true then (digits_Parse.j2 k x4 x5 (x5.toList==([48]:List UInt8))) else (digits_Parse.j2 k x4 x5 false)))
def digits_Parse.j2:Nat→Bool→ByteArray→Bool→Option (Int × Int)
 | 0,_,_,_=>none
 | k+1,x4,x5,x42=>if x42=true then (some (0,3)) else (digits_Parse.l0 k x4 x5 0 false 0)
def digits_Parse.l0:Nat→Bool→ByteArray→Int→Bool→Int→Option (Int × Int)
 | 0,_,_,_,_,_=>none
 | k+1,x4,x5,x6,x7,x8=>if x8<(x5.size:Int) then (if 0≤x8 then (if (bt x5 x8)<48 then (digits_Parse.j4 k x4 x5 x6 x7 x8 (bt x5 x8) true) else (digits_Parse.j4 k x4 x5 x6 x7 x8 (bt x5 x8) (decide ((bt x5 x8)>57)))) else (none)) else (if x7=true then (digits_Parse.j5 k x4 x6 true) else (if x4=true then (digits_Parse.j5 k x4 x6 false) else (digits_Parse.j5 k x4 x6 (x6==(-9223372036854775808)))))
def digits_Parse.j4:Nat→Bool→ByteArray→Int→Bool→Int→Int→Bool→Option (Int × Int)
 | 0,_,_,_,_,_,_,_=>none
 | k+1,x4,x5,x6,x7,x8,x9,x52=>if x52=true then (some (0,3)) else (if x7=true then (digits_Parse.l0 k x4 x5 x6 x7 (wrap64 (x8+1))) else (if x6<(Int.tdiv ((-9223372036854775808)+((x9 - 48) % 256)) 10) then (digits_Parse.l0 k x4 x5 x6 true (wrap64 (x8+1))) else (digits_Parse.l0 k x4 x5 (wrap64 ((wrap64 (x6 * 10)) - ((x9 - 48) % 256))) x7 (wrap64 (x8+1)))))
def digits_Parse.j5:Nat→Bool→Int→Bool→Option (Int × Int)
 | 0,_,_,_=>none
 | k+1,x4,x6,x73=>if x73=true then (some (0,18)) else (if x4=true then (some (x6,0)) else (some (wrap64 (-x6),0)))
end
def digits_Parse.f (k:Nat) (a0:ByteArray):Option (Int × Int):=if (a0.size:Int)>0 then (if 0<(a0.size:Int) then (digits_Parse.j0 k a0 ((bt a0 0)==45)) else (none)) else (digits_Parse.j0 k a0 false)
theorem digits_Parse.calls (k:Nat) (a0:ByteArray) (r1:Int) (r2:Int) (w:World) (h:digits_Parse.f k a0=some (r1,r2)):
  Calls Try.prog 117 #[.string a0] w fun e w'=>e=.returned (.tuple #[.int .i64 r1,.int .i64 r2])∧Drawn0 w w':=by
 have H:(if (a0.size:Int)>0 then (if 0<(a0.size:Int) then (digits_Parse.j0 k a0 ((bt a0 0)==45)) else (none)) else (digits_Parse.j0 k a0 false))=some (r1,r2):=h
 clear h
 have HC2:=aM H
 clear H
 go_enter Try.func117,Try.ntmps117
 (go_wp2)
 go_step3
 go_upto_region 1 with (fail)
 go_cut [4] (fun v4 wc=>∃ (kq:Nat) (x4_1:Bool),v4=.bool x4_1∧Aside0 (digits_Parse.j0 kq a0 x4_1=some (r1,r2))∧Aside0 (kq≤k)∧Drawn0 w wc)
 case first=>
  have H:=HC2.out
  clear HC2
  by_cases c3:(a0.size:Int)>0
  ·rw [if_pos c3] at H
   have c3b0:decide (0<(a0.size:Int))=true:=decide_eq_true c3
   have c3b1:decide (0<a0.size)=true:=decide_eq_true (by omega)
   clear c3
   (first | rw [c3b0] | (simp only [i64_w,i32_w];rw [c3b0]) | skip)
   by_cases c4:0<(a0.size:Int)
   ·rw [if_pos c4] at H
    have c4b0:decide (0<(a0.size:Int))=true:=decide_eq_true c4
    have c4b1:decide (0<a0.size)=true:=decide_eq_true (by omega)
    clear c4
    have H':=aM H
    clear H
    have p5:0≤(0:Int):=(by omega)
    have q5:0<a0.size:=(by have:(0:Int)<(a0.size:Int):=of_decide_eq_true zS;omega)
    have hx5:∀ h:0<a0.size,((a0[0]'h).toNat:Int)=bt a0 0:=bt_at a0 0
    clear p5
    have qi5:(0<(a0.size:Int))=True:=eq_true (of_decide_eq_true zS)
    replace q5:=eq_true q5
    go_wp2
    (try (go_step3;go_wp2))
    go_meet
    case rel=>exact ⟨_,(((bt a0 0)==45)),(by first | rfl | (simp;done) | (simp [*];done)),H',⟨by first | omega | exact Nat.le_refl _⟩,zQ⟩
   ·rw [if_neg c4] at H
    exact absurd H (by simp)
  ·rw [if_neg c3] at H
   have c3b0:decide (0<(a0.size:Int))=false:=decide_eq_false c3
   have c3b1:decide (0<a0.size)=false:=decide_eq_false (by omega)
   clear c3
   (first | rw [c3b0] | (simp only [i64_w,i32_w];rw [c3b0]) | skip)
   have H':=aM H
   clear H
   go_wp2
   (try (go_step3;go_wp2))
   go_meet
   case rel=>exact ⟨_,(false),(by first | rfl | (simp;done) | (simp [*];done)),H',⟨by first | omega | exact Nat.le_refl _⟩,zQ⟩
 case rest=>
  clear HC2
  try clear c1
  try clear p2
  try clear c3
  try clear c3b0
  try clear c3b1
  try clear c4
  try clear c4b0
  try clear c4b1
  try clear p5
  try clear q5
  try clear hx5
  try clear qi5
  try clear p5
  try clear q5
  obtain ⟨kq,x4_1,rfl,HA,HJ1,⟨mc1,rfl⟩⟩:=hcut
  cases kq with
  | zero=>exact absurd HA.out (by simp [digits_Parse.j0])
  | succ kj1=>
   have H:=HA.out
   clear HA
   simp only [digits_Parse.j0] at H
   have HC6:=aM H
   clear H
   go_upto_if 20 with (fail)
   go_cut [5] (fun v5 wc=>∃ (kq:Nat) (x5_5:ByteArray),v5=.string x5_5∧Aside0 (digits_Parse.j1 kq x4_1 x5_5=some (r1,r2))∧Aside0 (kq≤kj1)∧Drawn0 w wc)
   case first=>
    have H:=HC6.out
    clear HC6
    by_cases c7:x4_1=true
    ·subst c7
     have H1:(if 1≤(a0.size:Int) then (digits_Parse.j1 kj1 true (a0.extract 1 a0.size)) else (none))=some (r1,r2):=by rw [if_pos rfl] at H;exact H
     clear H
     have H:=H1
     clear H1
     by_cases c8:1≤(a0.size:Int)
     ·rw [if_pos c8] at H
      have c8b0:=eq_true c8
      have c8b1:decide (1≤(a0.size:Int))=true:=decide_eq_true c8
      clear c8
      have H':=aM H
      clear H
      go_wp2
      (try (go_step3;go_wp2))
      go_meet
      case rel=>exact ⟨_,(a0.extract 1 a0.size),(by first | rfl | (simp;done) | (simp [*];done)),H',⟨by have:=HJ1.out;first | omega | exact Nat.le_refl _⟩,zQ⟩
     ·rw [if_neg c8] at H
      exact absurd H (by simp)
    ·replace c7:=Bool.eq_false_iff.mpr c7
     subst c7
     have H1:(digits_Parse.j1 kj1 false a0)=some (r1,r2):=by rw [if_neg (show ¬ (false=true) by decide)] at H;exact H
     clear H
     have H:=H1
     clear H1
     have H':=aM H
     clear H
     go_wp2
     (try (go_step3;go_wp2))
     go_meet
     case rel=>exact ⟨_,(a0),(by first | rfl | (simp;done) | (simp [*];done)),H',⟨by have:=HJ1.out;first | omega | exact Nat.le_refl _⟩,zQ⟩
   case rest=>
    clear HC6
    try clear c1
    try clear p2
    try clear c3
    try clear c3b0
    try clear c3b1
    try clear c4
    try clear c4b0
    try clear c4b1
    try clear p5
    try clear q5
    try clear hx5
    try clear qi5
    try clear c7
    try clear c8
    try clear c8b0
    try clear c8b1
    try clear p2
    try clear p5
    try clear q5
    obtain ⟨kq,x5_5,rfl,HA,HJ5,⟨mc5,rfl⟩⟩:=hcut
    cases kq with
    | zero=>exact absurd HA.out (by simp [digits_Parse.j1])
    | succ kj5=>
     have H:=HA.out
     clear HA
     simp only [digits_Parse.j1] at H
     have HC9:=aM H
     clear H
     go_upto_region 5 with (fail)
     go_cut [42] (fun v42 wc=>∃ (kq:Nat) (x42_8:Bool),v42=.bool x42_8∧Aside0 (digits_Parse.j2 kq x4_1 x5_5 x42_8=some (r1,r2))∧Aside0 (kq≤kj5)∧Drawn0 w wc)
     case first=>
      have H:=HC9.out
      clear HC9
      by_cases c10:(x5_5.size:Int)=0
      ·rw [if_pos c10] at H
       have c10b0:((x5_5.size:Int)==0)=true:=beq_iff_eq.mpr c10
       have c10b1:((x5_5.size:Int) !=0)=false:=bne_eq_false_iff_eq.mpr c10
       clear c10
       (first | rw [c10b0] | (simp only [i64_w,i32_w];rw [c10b0]) | skip)
       have H':=aM H
       clear H
       go_wp2
       (try (go_step3;go_wp2))
       go_meet
       case rel=>exact ⟨_,(true),(by first | rfl | (simp;done) | (simp [*];done)),H',⟨by have:=HJ1.out;have:=HJ5.out;first | omega | exact Nat.le_refl _⟩,zQ⟩
      ·rw [if_neg c10] at H
       have c10b0:((x5_5.size:Int)==0)=false:=beq_eq_false_iff_ne.mpr c10
       have c10b1:((x5_5.size:Int) !=0)=true:=bne_iff_ne.mpr c10
       (first | rw [c10b0] | (simp only [i64_w,i32_w];rw [c10b0]) | skip)
       by_cases c11:(x5_5.size:Int)>1
       ·rw [if_pos c11] at H
        have c11b0:decide (1<(x5_5.size:Int))=true:=decide_eq_true c11
        have c11b1:decide (1<x5_5.size)=true:=decide_eq_true (by omega)
        clear c11
        by_cases c12:0<(x5_5.size:Int)
        ·rw [if_pos c12] at H
         have c12b0:decide (0<(x5_5.size:Int))=true:=decide_eq_true c12
         have c12b1:decide (0<x5_5.size)=true:=decide_eq_true (by omega)
         clear c12
         by_cases c14:(bt x5_5 0)=48
         ·rw [if_pos c14] at H
          have c14b0:((bt x5_5 0)==48)=true:=beq_iff_eq.mpr c14
          have c14b1:((bt x5_5 0) !=48)=false:=bne_eq_false_iff_eq.mpr c14
          clear c14
          have H':=aM H
          clear H
          have p13:0≤(0:Int):=(by omega)
          have q13:0<x5_5.size:=(by have:(0:Int)<(x5_5.size:Int):=of_decide_eq_true zS;omega)
          have hx13:∀ h:0<x5_5.size,((x5_5[0]'h).toNat:Int)=bt x5_5 0:=bt_at x5_5 0
          clear p13
          have qi13:(0<(x5_5.size:Int))=True:=eq_true (of_decide_eq_true zS)
          replace q13:=eq_true q13
          go_wp2
          (try (go_step3;go_wp2))
          go_meet
          case rel=>exact ⟨_,(true),(by first | rfl | (simp;done) | (simp [*];done)),H',⟨by have:=HJ1.out;have:=HJ5.out;first | omega | exact Nat.le_refl _⟩,zQ⟩
         ·rw [if_neg c14] at H
          have c14b0:((bt x5_5 0)==48)=false:=beq_eq_false_iff_ne.mpr c14
          have c14b1:((bt x5_5 0) !=48)=true:=bne_iff_ne.mpr c14
          by_cases c15:x4_1=true
          ·subst c15
           have H1:(digits_Parse.j2 kj5 true x5_5 (x5_5.toList==([48]:List UInt8)))=some (r1,r2):=by rw [if_pos rfl] at H;exact H
           clear H
           have H:=H1
           clear H1
           have H':=aM H
           clear H
           have p13:0≤(0:Int):=(by omega)
           have q13:0<x5_5.size:=(by have:(0:Int)<(x5_5.size:Int):=of_decide_eq_true zS;omega)
           have hx13:∀ h:0<x5_5.size,((x5_5[0]'h).toNat:Int)=bt x5_5 0:=bt_at x5_5 0
           clear p13
           have qi13:(0<(x5_5.size:Int))=True:=eq_true (of_decide_eq_true zS)
           replace q13:=eq_true q13
           go_wp2
           (try (go_step3;go_wp2))
           go_meet
           case rel=>exact ⟨_,((x5_5.toList==([48]:List UInt8))),(by first | rfl | (simp;done) | (simp [*];done)),H',⟨by have:=HJ1.out;have:=HJ5.out;first | omega | exact Nat.le_refl _⟩,zQ⟩
          ·replace c15:=Bool.eq_false_iff.mpr c15
           subst c15
           have H1:(digits_Parse.j2 kj5 false x5_5 false)=some (r1,r2):=by rw [if_neg (show ¬ (false=true) by decide)] at H;exact H
           clear H
           have H:=H1
           clear H1
           have H':=aM H
           clear H
           have p13:0≤(0:Int):=(by omega)
           have q13:0<x5_5.size:=(by have:(0:Int)<(x5_5.size:Int):=of_decide_eq_true zS;omega)
           have hx13:∀ h:0<x5_5.size,((x5_5[0]'h).toNat:Int)=bt x5_5 0:=bt_at x5_5 0
           clear p13
           have qi13:(0<(x5_5.size:Int))=True:=eq_true (of_decide_eq_true zS)
           replace q13:=eq_true q13
           go_wp2
           (try (go_step3;go_wp2))
           go_meet
           case rel=>exact ⟨_,(false),(by first | rfl | (simp;done) | (simp [*];done)),H',⟨by have:=HJ1.out;have:=HJ5.out;first | omega | exact Nat.le_refl _⟩,zQ⟩
        ·rw [if_neg c12] at H
         exact absurd H (by simp)
       ·rw [if_neg c11] at H
        have c11b0:decide (1<(x5_5.size:Int))=false:=decide_eq_false c11
        have c11b1:decide (1<x5_5.size)=false:=decide_eq_false (by omega)
        clear c11
        by_cases c16:x4_1=true
        ·subst c16
         have H1:(digits_Parse.j2 kj5 true x5_5 (x5_5.toList==([48]:List UInt8)))=some (r1,r2):=by rw [if_pos rfl] at H;exact H
         clear H
         have H:=H1
         clear H1
         have H':=aM H
         clear H
         go_wp2
         (try (go_step3;go_wp2))
         go_meet
         case rel=>exact ⟨_,((x5_5.toList==([48]:List UInt8))),(by first | rfl | (simp;done) | (simp [*];done)),H',⟨by have:=HJ1.out;have:=HJ5.out;first | omega | exact Nat.le_refl _⟩,zQ⟩
        ·replace c16:=Bool.eq_false_iff.mpr c16
         subst c16
         have H1:(digits_Parse.j2 kj5 false x5_5 false)=some (r1,r2):=by rw [if_neg (show ¬ (false=true) by decide)] at H;exact H
         clear H
         have H:=H1
         clear H1
         have H':=aM H
         clear H
         go_wp2
         (try (go_step3;go_wp2))
         go_meet
         case rel=>exact ⟨_,(false),(by first | rfl | (simp;done) | (simp [*];done)),H',⟨by have:=HJ1.out;have:=HJ5.out;first | omega | exact Nat.le_refl _⟩,zQ⟩
     case rest=>
      clear HC9
      try clear c1
      try clear p1
      try clear q1
      try clear hx1
      try clear qi1
      try clear p2
      try clear c3
      try clear c3b0
      try clear c3b1
      try clear c4
      try clear c4b0
      try clear c4b1
      try clear c5
      try clear p5
      try clear q5
      try clear hx5
      try clear qi5
      try clear c7
      try clear c8
      try clear c8b0
      try clear c8b1
      try clear c10
      try clear c10b0
      try clear c10b1
      try clear c11
      try clear c11b0
      try clear c11b1
      try clear c12
      try clear c12b0
      try clear c12b1
      try clear p13
      try clear q13
      try clear hx13
      try clear qi13
      try clear c14
      try clear c14b0
      try clear c14b1
      try clear c15
      try clear c16
      try clear p13
      try clear p2
      try clear p5
      try clear q13
      try clear q5
      obtain ⟨kq,x42_8,rfl,HA,HJ8,⟨mc8,rfl⟩⟩:=hcut
      cases kq with
      | zero=>exact absurd HA.out (by simp [digits_Parse.j2])
      | succ kj8=>
       have H:=HA.out
       clear HA
       simp only [digits_Parse.j2] at H
       by_cases c17:x42_8=true
       ·subst c17
        have H1:(some (0,3))=some (r1,r2):=by rw [if_pos rfl] at H;exact H
        clear H
        have H:=H1
        clear H1
        simp only [Option.some.injEq,Prod.mk.injEq] at H
        obtain ⟨rfl,rfl⟩:=H
        go_wp2
        (try (go_step3;go_wp2))
        (try rw [Exit.noGoto_ret])
        go_ret2
        exact ⟨by first | rfl | (simp;done) | (simp [*];done),zQ⟩
       ·replace c17:=Bool.eq_false_iff.mpr c17
        subst c17
        have H1:(digits_Parse.l0 kj8 x4_1 x5_5 0 false 0)=some (r1,r2):=by rw [if_neg (show ¬ (false=true) by decide)] at H;exact H
        clear H
        have H:=H1
        clear H1
        have H':=aM H
        clear H
        go_wp2
        (try (go_step3;go_wp2))
        go_loopg [6,7,8] kj8 (fun kq v6 v7 v8 w'=>∃ (x6_4:Int) (x7_4:Bool) (x8_4:Int),v6=.int .i64 x6_4∧v7=.bool x7_4∧v8=.int .i64 x8_4∧Aside0 (digits_Parse.l0 kq x4_1 x5_5 x6_4 x7_4 x8_4=some (r1,r2))∧Aside0 (kq≤kj8)∧Drawn0 w w')
        case atStart=>exact ⟨(0),(false),(0),(by first | rfl | (simp;done) | (simp [*];done)),(by first | rfl | (simp;done) | (simp [*];done)),(by first | rfl | (simp;done) | (simp [*];done)),H',⟨Nat.le_refl _⟩,zQ⟩
        case round=>
         clear H'
         try clear c1
         try clear p1
         try clear q1
         try clear hx1
         try clear qi1
         try clear p2
         try clear c3
         try clear c3b0
         try clear c3b1
         try clear c4
         try clear c4b0
         try clear c4b1
         try clear c5
         try clear p5
         try clear q5
         try clear hx5
         try clear qi5
         try clear c7
         try clear c8
         try clear c8b0
         try clear c8b1
         try clear c10
         try clear c10b0
         try clear c10b1
         try clear c11
         try clear c11b0
         try clear c11b1
         try clear c12
         try clear c12b0
         try clear c12b1
         try clear p13
         try clear q13
         try clear hx13
         try clear qi13
         try clear c14
         try clear c14b0
         try clear c14b1
         try clear c15
         try clear c16
         try clear c17
         try clear p1
         try clear p13
         try clear p2
         try clear p5
         try clear q1
         try clear q13
         try clear q5
         obtain ⟨x6_4,x7_4,x8_4,rfl,rfl,rfl,HA,HK4,⟨m4,rfl⟩⟩:=hrel
         cases gk with
         | zero=>exact absurd HA.out (by simp [digits_Parse.l0])
         | succ k4=>
          have H:=HA.out
          clear HA
          simp only [digits_Parse.l0] at H
          by_cases c18:x8_4<(x5_5.size:Int)
          ·rw [if_pos c18] at H
           have c18b0:decide (x8_4<(x5_5.size:Int))=true:=decide_eq_true c18
           clear c18
           by_cases c19:0≤x8_4
           ·rw [if_pos c19] at H
            have c19b0:decide (0≤x8_4)=true:=decide_eq_true c19
            clear c19
            have HC21:=aM H
            clear H
            have p20:0≤(x8_4:Int):=of_decide_eq_true zS
            have q20:x8_4<(x5_5.size:Int):=of_decide_eq_true zS
            have hx20:=bt_at x5_5 x8_4
            replace p20:=eq_true p20
            replace q20:=eq_true q20
            go_upto_region 13 with (fail)
            go_cut [52] (fun v52 wc=>∃ (kq:Nat) (x52_20:Bool),v52=.bool x52_20∧Aside0 (digits_Parse.j4 kq x4_1 x5_5 x6_4 x7_4 x8_4 (bt x5_5 x8_4) x52_20=some (r1,r2))∧Aside0 (kq≤k4)∧Drawn0 w wc)
            case first=>
             have H:=HC21.out
             clear HC21
             by_cases c22:(bt x5_5 x8_4)<48
             ·rw [if_pos c22] at H
              have c22b0:decide ((bt x5_5 x8_4)<48)=true:=decide_eq_true c22
              clear c22
              (first | rw [c22b0] | (simp only [i64_w,i32_w];rw [c22b0]) | skip)
              have H':=aM H
              clear H
              go_wp2
              (try (go_step3;go_wp2))
              go_meet
              case rel=>exact ⟨_,(true),(by first | rfl | (simp;done) | (simp [*];done)),H',⟨by have:=HJ1.out;have:=HJ5.out;have:=HJ8.out;have:=HK4.out;first | omega | exact Nat.le_refl _⟩,zQ⟩
             ·rw [if_neg c22] at H
              have c22b0:decide ((bt x5_5 x8_4)<48)=false:=decide_eq_false c22
              clear c22
              (first | rw [c22b0] | (simp only [i64_w,i32_w];rw [c22b0]) | skip)
              have H':=aM H
              clear H
              go_wp2
              (try (go_step3;go_wp2))
              go_meet
              case rel=>exact ⟨_,(decide ((bt x5_5 x8_4)>57)),(by first | rfl | (simp;done) | (simp [*];done)),H',⟨by have:=HJ1.out;have:=HJ5.out;have:=HJ8.out;have:=HK4.out;first | omega | exact Nat.le_refl _⟩,zQ⟩
            case rest=>
             clear HC21
             try clear c1
             try clear p1
             try clear q1
             try clear hx1
             try clear qi1
             try clear c2
             try clear p2
             try clear q2
             try clear hx2
             try clear c3
             try clear c3b0
             try clear c3b1
             try clear c4
             try clear c4b0
             try clear c4b1
             try clear c5
             try clear p5
             try clear q5
             try clear hx5
             try clear qi5
             try clear c7
             try clear c8
             try clear c8b0
             try clear c8b1
             try clear c10
             try clear c10b0
             try clear c10b1
             try clear c11
             try clear c11b0
             try clear c11b1
             try clear c12
             try clear c12b0
             try clear c12b1
             try clear p13
             try clear q13
             try clear hx13
             try clear qi13
             try clear c14
             try clear c14b0
             try clear c14b1
             try clear c15
             try clear c16
             try clear c17
             try clear c18
             try clear c18b0
             try clear c19
             try clear c19b0
             try clear p20
             try clear q20
             try clear hx20
             try clear c22
             try clear c22b0
             try clear p1
             try clear p13
             try clear p2
             try clear p20
             try clear p5
             try clear q1
             try clear q13
             try clear q20
             try clear q5
             obtain ⟨kq,x52_20,rfl,HA,HJ20,⟨mc20,rfl⟩⟩:=hcut
             cases kq with
             | zero=>exact absurd HA.out (by simp [digits_Parse.j4])
             | succ kj20=>
              have H:=HA.out
              clear HA
              simp only [digits_Parse.j4] at H
              by_cases c23:x52_20=true
              ·subst c23
               have H1:(some (0,3))=some (r1,r2):=by rw [if_pos rfl] at H;exact H
               clear H
               have H:=H1
               clear H1
               simp only [Option.some.injEq,Prod.mk.injEq] at H
               obtain ⟨rfl,rfl⟩:=H
               go_wp2
               (try (go_step3;go_wp2))
               (try rw [Exit.noGoto_ret])
               go_ret2
               exact ⟨by first | rfl | (simp;done) | (simp [*];done),zQ⟩
              ·replace c23:=Bool.eq_false_iff.mpr c23
               subst c23
               have H1:(if x7_4=true then (digits_Parse.l0 kj20 x4_1 x5_5 x6_4 x7_4 (wrap64 (x8_4+1))) else (if x6_4<(Int.tdiv ((-9223372036854775808)+(((bt x5_5 x8_4) - 48) % 256)) 10) then (digits_Parse.l0 kj20 x4_1 x5_5 x6_4 true (wrap64 (x8_4+1))) else (digits_Parse.l0 kj20 x4_1 x5_5 (wrap64 ((wrap64 (x6_4 * 10)) - (((bt x5_5 x8_4) - 48) % 256))) x7_4 (wrap64 (x8_4+1)))))=some (r1,r2):=by rw [if_neg (show ¬ (false=true) by decide)] at H;exact H
               clear H
               have H:=H1
               clear H1
               by_cases c24:x7_4=true
               ·subst c24
                have H1:(digits_Parse.l0 kj20 x4_1 x5_5 x6_4 true (wrap64 (x8_4+1)))=some (r1,r2):=by rw [if_pos rfl] at H;exact H
                clear H
                have H:=H1
                clear H1
                have H':=aM H
                clear H
                go_wp2
                (try (go_step3;go_wp2))
                go_roundg kj20
                case measure=>have:=HJ1.out;have:=HJ5.out;have:=HJ8.out;have:=HK4.out;have:=HJ20.out;omega
                case rel=>exact ⟨(x6_4),(true),(wrap64 (x8_4+1)),(by first | rfl | (simp;done) | (simp [*];done)),(by first | rfl | (simp;done) | (simp [*];done)),(by first | rfl | (simp;done) | (simp [*];done)),H',⟨by have:=HJ1.out;have:=HJ5.out;have:=HJ8.out;have:=HK4.out;have:=HJ20.out;omega⟩,zQ⟩
               ·replace c24:=Bool.eq_false_iff.mpr c24
                subst c24
                have H1:(if x6_4<(Int.tdiv ((-9223372036854775808)+(((bt x5_5 x8_4) - 48) % 256)) 10) then (digits_Parse.l0 kj20 x4_1 x5_5 x6_4 true (wrap64 (x8_4+1))) else (digits_Parse.l0 kj20 x4_1 x5_5 (wrap64 ((wrap64 (x6_4 * 10)) - (((bt x5_5 x8_4) - 48) % 256))) false (wrap64 (x8_4+1))))=some (r1,r2):=by rw [if_neg (show ¬ (false=true) by decide)] at H;exact H
                clear H
                have H:=H1
                clear H1
                by_cases c25:x6_4<(Int.tdiv ((-9223372036854775808)+(((bt x5_5 x8_4) - 48) % 256)) 10)
                ·rw [if_pos c25] at H
                 have c25b0:decide (x6_4<(Int.tdiv ((-9223372036854775808)+(((bt x5_5 x8_4) - 48) % 256)) 10))=true:=decide_eq_true c25
                 clear c25
                 have H':=aM H
                 clear H
                 go_wp2
                 (try (go_step3;go_wp2))
                 go_roundg kj20
                 case measure=>have:=HJ1.out;have:=HJ5.out;have:=HJ8.out;have:=HK4.out;have:=HJ20.out;omega
                 case rel=>exact ⟨(x6_4),(true),(wrap64 (x8_4+1)),(by first | rfl | (simp;done) | (simp [*];done)),(by first | rfl | (simp;done) | (simp [*];done)),(by first | rfl | (simp;done) | (simp [*];done)),H',⟨by have:=HJ1.out;have:=HJ5.out;have:=HJ8.out;have:=HK4.out;have:=HJ20.out;omega⟩,zQ⟩
                ·rw [if_neg c25] at H
                 have c25b0:decide (x6_4<(Int.tdiv ((-9223372036854775808)+(((bt x5_5 x8_4) - 48) % 256)) 10))=false:=decide_eq_false c25
                 clear c25
                 have H':=aM H
                 clear H
                 go_wp2
                 (try (go_step3;go_wp2))
                 go_roundg kj20
                 case measure=>have:=HJ1.out;have:=HJ5.out;have:=HJ8.out;have:=HK4.out;have:=HJ20.out;omega
                 case rel=>exact ⟨(wrap64 ((wrap64 (x6_4 * 10)) - (((bt x5_5 x8_4) - 48) % 256))),(false),(wrap64 (x8_4+1)),(by first | rfl | (simp;done) | (simp [*];done)),(by first | rfl | (simp;done) | (simp [*];done)),(by first | rfl | (simp;done) | (simp [*];done)),H',⟨by have:=HJ1.out;have:=HJ5.out;have:=HJ8.out;have:=HK4.out;have:=HJ20.out;omega⟩,zQ⟩
           ·rw [if_neg c19] at H
            exact absurd H (by simp)
          ·rw [if_neg c18] at H
           have c18b0:decide (x8_4<(x5_5.size:Int))=false:=decide_eq_false c18
           clear c18
           have HC26:=aM H
           clear H
           go_upto_region 20 with (fail)
           go_cut [73] (fun v73 wc=>∃ (kq:Nat) (x73_25:Bool),v73=.bool x73_25∧Aside0 (digits_Parse.j5 kq x4_1 x6_4 x73_25=some (r1,r2))∧Aside0 (kq≤k4)∧Drawn0 w wc)
           case first=>
            have H:=HC26.out
            clear HC26
            by_cases c27:x7_4=true
            ·subst c27
             have H1:(digits_Parse.j5 k4 x4_1 x6_4 true)=some (r1,r2):=by rw [if_pos rfl] at H;exact H
             clear H
             have H:=H1
             clear H1
             have H':=aM H
             clear H
             go_wp2
             (try (go_step3;go_wp2))
             go_meet
             case rel=>exact ⟨_,(true),(by first | rfl | (simp;done) | (simp [*];done)),H',⟨by have:=HJ1.out;have:=HJ5.out;have:=HJ8.out;have:=HK4.out;first | omega | exact Nat.le_refl _⟩,zQ⟩
            ·replace c27:=Bool.eq_false_iff.mpr c27
             subst c27
             have H1:(if x4_1=true then (digits_Parse.j5 k4 x4_1 x6_4 false) else (digits_Parse.j5 k4 x4_1 x6_4 (x6_4==(-9223372036854775808))))=some (r1,r2):=by rw [if_neg (show ¬ (false=true) by decide)] at H;exact H
             clear H
             have H:=H1
             clear H1
             by_cases c28:x4_1=true
             ·subst c28
              have H1:(digits_Parse.j5 k4 true x6_4 false)=some (r1,r2):=by rw [if_pos rfl] at H;exact H
              clear H
              have H:=H1
              clear H1
              have H':=aM H
              clear H
              go_wp2
              (try (go_step3;go_wp2))
              go_meet
              case rel=>exact ⟨_,(false),(by first | rfl | (simp;done) | (simp [*];done)),H',⟨by have:=HJ1.out;have:=HJ5.out;have:=HJ8.out;have:=HK4.out;first | omega | exact Nat.le_refl _⟩,zQ⟩
             ·replace c28:=Bool.eq_false_iff.mpr c28
              subst c28
              have H1:(digits_Parse.j5 k4 false x6_4 (x6_4==(-9223372036854775808)))=some (r1,r2):=by rw [if_neg (show ¬ (false=true) by decide)] at H;exact H
              clear H
              have H:=H1
              clear H1
              have H':=aM H
              clear H
              go_wp2
              (try (go_step3;go_wp2))
              go_meet
              case rel=>exact ⟨_,((x6_4==(-9223372036854775808))),(by first | rfl | (simp;done) | (simp [*];done)),H',⟨by have:=HJ1.out;have:=HJ5.out;have:=HJ8.out;have:=HK4.out;first | omega | exact Nat.le_refl _⟩,zQ⟩
           case rest=>
            clear HC26
            try clear c1
            try clear p1
            try clear q1
            try clear hx1
            try clear qi1
            try clear c2
            try clear p2
            try clear q2
            try clear hx2
            try clear c3
            try clear c3b0
            try clear c3b1
            try clear c4
            try clear c4b0
            try clear c4b1
            try clear c5
            try clear p5
            try clear q5
            try clear hx5
            try clear qi5
            try clear p6
            try clear c7
            try clear c8
            try clear c8b0
            try clear c8b1
            try clear c10
            try clear c10b0
            try clear c10b1
            try clear c11
            try clear c11b0
            try clear c11b1
            try clear c12
            try clear c12b0
            try clear c12b1
            try clear p13
            try clear q13
            try clear hx13
            try clear qi13
            try clear c14
            try clear c14b0
            try clear c14b1
            try clear c15
            try clear c16
            try clear c17
            try clear c18
            try clear c18b0
            try clear c19
            try clear c19b0
            try clear c20
            try clear p20
            try clear q20
            try clear hx20
            try clear c22
            try clear c22b0
            try clear c23
            try clear c24
            try clear c25
            try clear c25b0
            try clear c27
            try clear c28
            try clear p1
            try clear p13
            try clear p2
            try clear p20
            try clear p5
            try clear q1
            try clear q13
            try clear q2
            try clear q20
            try clear q5
            obtain ⟨kq,x73_25,rfl,HA,HJ25,⟨mc25,rfl⟩⟩:=hcut
            cases kq with
            | zero=>exact absurd HA.out (by simp [digits_Parse.j5])
            | succ kj25=>
             have H:=HA.out
             clear HA
             simp only [digits_Parse.j5] at H
             by_cases c29:x73_25=true
             ·subst c29
              have H1:(some (0,18))=some (r1,r2):=by rw [if_pos rfl] at H;exact H
              clear H
              have H:=H1
              clear H1
              simp only [Option.some.injEq,Prod.mk.injEq] at H
              obtain ⟨rfl,rfl⟩:=H
              go_wp2
              (try (go_step3;go_wp2))
              (try rw [Exit.noGoto_ret])
              go_ret2
              exact ⟨by first | rfl | (simp;done) | (simp [*];done),zQ⟩
             ·replace c29:=Bool.eq_false_iff.mpr c29
              subst c29
              have H1:(if x4_1=true then (some (x6_4,0)) else (some (wrap64 (-x6_4),0)))=some (r1,r2):=by rw [if_neg (show ¬ (false=true) by decide)] at H;exact H
              clear H
              have H:=H1
              clear H1
              by_cases c30:x4_1=true
              ·subst c30
               have H1:(some (x6_4,0))=some (r1,r2):=by rw [if_pos rfl] at H;exact H
               clear H
               have H:=H1
               clear H1
               simp only [Option.some.injEq,Prod.mk.injEq] at H
               obtain ⟨rfl,rfl⟩:=H
               go_wp2
               (try (go_step3;go_wp2))
               (try rw [Exit.noGoto_ret])
               go_ret2
               exact ⟨by first | rfl | (simp;done) | (simp [*];done),zQ⟩
              ·replace c30:=Bool.eq_false_iff.mpr c30
               subst c30
               have H1:(some (wrap64 (-x6_4),0))=some (r1,r2):=by rw [if_neg (show ¬ (false=true) by decide)] at H;exact H
               clear H
               have H:=H1
               clear H1
               simp only [Option.some.injEq,Prod.mk.injEq] at H
               obtain ⟨rfl,rfl⟩:=H
               go_wp2
               (try (go_step3;go_wp2))
               (try rw [Exit.noGoto_ret])
               go_ret2
               exact ⟨by first | rfl | (simp;done) | (simp [*];done),zQ⟩
end Go.Proofs.Ytkjdblbgmomieaa.PSh
end
-- from YtkjdblbgmomieaaPShx29
section
namespace Go.Proofs.Ytkjdblbgmomieaa.PSh
set_option maxHeartbeats 8000000
set_option maxRecDepth 100000
open Go.RowKit Go.Proofs.YtkjdblbgmomieaaW.PrintWords Go.Proofs.YtkjdblbgmomieaaW.PrintLast Go.Proofs.YtkjdblbgmomieaaW.PrintMore Go.Proofs.Ytkjdblbgmomieaa.Zip
attribute [local go_sem] max2_int min2_int max_two min_two max_three min_three max_four min_four   -- for this text's walks alone
set_option linter.unusedVariables false
set_option linter.unusedSimpArgs false
def digits_Index.f (k:Nat) (a0:ByteArray) (a1:Int):Option (Int × Int):=(digits_Parse.f k a0).bind fun bt410=>(if bt410.2=0 then (if bt410.1<0 then (some (0,18)) else (if bt410.1>a1 then (some (0,18)) else (some (bt410.1,0)))) else (some (0,bt410.2)))
theorem digits_Index.calls (k:Nat) (a0:ByteArray) (a1:Int) (r1:Int) (r2:Int) (w:World) (h:digits_Index.f k a0 a1=some (r1,r2)):
  Calls Try.prog 116 #[.string a0,.int .i64 a1] w fun e w'=>e=.returned (.tuple #[.int .i64 r1,.int .i64 r2])∧Drawn0 w w':=by
 have H:((digits_Parse.f k a0).bind fun bt410=>(if bt410.2=0 then (if bt410.1<0 then (some (0,18)) else (if bt410.1>a1 then (some (0,18)) else (some (bt410.1,0)))) else (some (0,bt410.2))))=some (r1,r2):=h
 clear h
 replace H:=Option.bind_eq_some_iff.mp H
 obtain ⟨⟨t410,t411⟩,A30,H⟩:=H
 have A3:=aM A30
 clear A30
 by_cases c4:t411=0
 ·rw [if_pos c4] at H
  have c4b0:(t411==0)=true:=beq_iff_eq.mpr c4
  have c4b1:(t411 !=0)=false:=bne_eq_false_iff_eq.mpr c4
  clear c4
  by_cases c5:t410<0
  ·rw [if_pos c5] at H
   have c5b0:decide (t410<0)=true:=decide_eq_true c5
   clear c5
   simp only [Option.some.injEq,Prod.mk.injEq] at H
   obtain ⟨rfl,rfl⟩:=H
   go_enter Try.func116,Try.ntmps116
   go_wp2_with (first | ((with_reducible refine gate_callee (f:=117) rfl ?_);refine goesL_ (some 10) rfl rfl Try.func117 (by kernel_rfl) rfl #[.string a0] rfl zA ?_;(with_reducible refine (digits_Parse.calls k a0 t410 t411 _ A3.out).mono ?_);rintro e w' ⟨rfl,⟨nd,rfl⟩⟩;refine ⟨_,rfl,?_⟩))
   go_ret2
   exact ⟨by first | rfl | (simp;done) | (simp [*];done),zQ⟩
  ·rw [if_neg c5] at H
   have c5b0:decide (t410<0)=false:=decide_eq_false c5
   clear c5
   by_cases c6:t410>a1
   ·rw [if_pos c6] at H
    have c6b0:decide (a1<t410)=true:=decide_eq_true c6
    clear c6
    simp only [Option.some.injEq,Prod.mk.injEq] at H
    obtain ⟨rfl,rfl⟩:=H
    go_enter Try.func116,Try.ntmps116
    go_wp2_with (first | ((with_reducible refine gate_callee (f:=117) rfl ?_);refine goesL_ (some 10) rfl rfl Try.func117 (by kernel_rfl) rfl #[.string a0] rfl zA ?_;(with_reducible refine (digits_Parse.calls k a0 t410 t411 _ A3.out).mono ?_);rintro e w' ⟨rfl,⟨nd,rfl⟩⟩;refine ⟨_,rfl,?_⟩))
    go_ret2
    exact ⟨by first | rfl | (simp;done) | (simp [*];done),zQ⟩
   ·rw [if_neg c6] at H
    have c6b0:decide (a1<t410)=false:=decide_eq_false c6
    clear c6
    simp only [Option.some.injEq,Prod.mk.injEq] at H
    obtain ⟨rfl,rfl⟩:=H
    go_enter Try.func116,Try.ntmps116
    go_wp2_with (first | ((with_reducible refine gate_callee (f:=117) rfl ?_);refine goesL_ (some 10) rfl rfl Try.func117 (by kernel_rfl) rfl #[.string a0] rfl zA ?_;(with_reducible refine (digits_Parse.calls k a0 t410 t411 _ A3.out).mono ?_);rintro e w' ⟨rfl,⟨nd,rfl⟩⟩;refine ⟨_,rfl,?_⟩))
    go_ret2
    exact ⟨by first | rfl | (simp;done) | (simp [*];done),zQ⟩
 ·rw [if_neg c4] at H
  have c4b0:(t411==0)=false:=beq_eq_false_iff_ne.mpr c4
  have c4b1:(t411 !=0)=true:=bne_iff_ne.mpr c4
  simp only [Option.some.injEq,Prod.mk.injEq] at H
  obtain ⟨rfl,rfl⟩:=H
  go_enter Try.func116,Try.ntmps116
  go_wp2_with (first | ((with_reducible refine gate_callee (f:=117) rfl ?_);refine goesL_ (some 10) rfl rfl Try.func117 (by kernel_rfl) rfl #[.string a0] rfl zA ?_;(with_reducible refine (digits_Parse.calls k a0 t410 t411 _ A3.out).mono ?_);rintro e w' ⟨rfl,⟨nd,rfl⟩⟩;refine ⟨_,rfl,?_⟩))
  go_ret2
  exact ⟨by first | rfl | (simp;done) | (simp [*];done),zQ⟩
end Go.Proofs.Ytkjdblbgmomieaa.PSh
end
