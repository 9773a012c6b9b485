import Derived.Test.YtkjdblbgmomieaaMv16
import Derived.Test.YtkjdblbgmomieaaMv5
import Derived.Test.YtkjdblbgmomieaaMv2
import Derived.Test.YtkjdblbgmomieaaMv11
import Derived.Deep.WholeRow
import Derived.KernelRfl
import Derived.Laws.CopyOwn
section
namespace Go.Proofs.Ytkjdblbgmomieaa.PSh
set_option maxHeartbeats 8000000
set_option maxRecDepth 100000
open Go.RowKit Go.Proofs.YtkjdblbgmomieaaW.PrintWords Go.Proofs.YtkjdblbgmomieaaW.PrintLast Go.Proofs.YtkjdblbgmomieaaW.PrintMore Go.Proofs.Ytkjdblbgmomieaa.Str
set_option linter.unusedVariables false
set_option linter.unusedSimpArgs false
def rtLoop:Nat→List (S101)→List (S34)→Int→Int→Int→Int→Int→Option (List (S34) × ST5)
  | 0,_,_,_,_,_,_,_=>none
  | k+1,tl,acc,s1,s2,s3,s4,s5=>if s4=0∧s1<(tl.length:Int) then (if acc.length≥32 then (r06_Reader_fail.f tl s1 s2 s3 s4 s5 6).bind fun z=>some (acc,z.1,z.2.1,z.2.2.1,z.2.2.2.1,z.2.2.2.2) else (r06_Reader_function.f k tl s1 s2 s3 s4 s5).bind fun b=>rtLoop k tl (acc++[⟨b.1,b.2.1,b.2.2.1,b.2.2.2.1,b.2.2.2.2.1⟩]) b.2.2.2.2.2.1 b.2.2.2.2.2.2.1 b.2.2.2.2.2.2.2.1 b.2.2.2.2.2.2.2.2.1 b.2.2.2.2.2.2.2.2.2)
    else some (acc,s1,s2,s3,s4,s5)
def r06_Text.f (k:Nat) (a:ByteArray):Option (List (S34) × Int × Int):=
  (r02_Split.f k a).bind fun t=>if t.2.1=0 then (rtLoop k t.1 [] 0 (a.size:Int) 0 0 0).bind fun o=>if o.2.2.2.2.1=0 then some (o.1,0,0) else some ([],o.2.2.2.2.1,o.2.2.2.2.2) else some ([],t.2.1,t.2.2)
structure RtAt (g b2 b3 b7:Nat) (tl:List (S101)) (acc:List (S34)) (v:Value) (s1 s2 s3 s4 s5:Int) (w w0 w':World):Prop where
  i:IsS89 w0 w' g tl s1 s2 s3 s4 s5
  b:Below w0.heap.size w0 w'
  wb:Below w.heap.size w w0
  l2:b2<w0.heap.size
  l3:b3<w0.heap.size
  g2:w.heap.size≤b2
  g3:w.heap.size≤b3
  z2:w0.heap[b2]?=some (.cells #[.slice none 0 0] 24 (0,0))
  z3:w0.heap[b3]?=some (.cells #[.int .i64 0,.int .i64 0] 28 (0,0))
  g7:w0.heap.size≤b7
  ne:g≠b7
  box:w'.heap[b7]?=some (.cells #[v] 24 (0,0))
  row:Kd.R k34 34 w' w0.heap.size (fun _=>True) v acc
section
variable {g b2 b3 b7 : Nat} {tl : List (S101)} {acc : List (S34)} {v : Value} {s1 s2 s3 s4 s5 r1 r2 r3 r4 r5 : Int} {w w0 w1 w2 : World}
theorem RtAt.zero2 (h:RtAt g b2 b3 b7 tl acc v s1 s2 s3 s4 s5 w w0 w1):w1.heap[b2]?=some (.cells #[.slice none 0 0] 24 (0,0)):=(h.b.block b2 h.l2).trans h.z2
theorem RtAt.zero3 (h:RtAt g b2 b3 b7 tl acc v s1 s2 s3 s4 s5 w w0 w1):w1.heap[b3]?=some (.cells #[.int .i64 0,.int .i64 0] 28 (0,0)):=(h.b.block b3 h.l3).trans h.z3
theorem RtAt.bel (h:RtAt g b2 b3 b7 tl acc v s1 s2 s3 s4 s5 w w0 w1):Below w.heap.size w w1:=below_step h.wb h.b
theorem RtAt.call (h:RtAt g b2 b3 b7 tl acc v s1 s2 s3 s4 s5 w w0 w1) (hi:IsS89 w0 w2 g tl r1 r2 r3 r4 r5) (hb:Below w0.heap.size w0 w2) (hk:KeepBut w1 w2 g none):RtAt g b2 b3 b7 tl acc v r1 r2 r3 r4 r5 w w0 w2:=by
  obtain ⟨A0,c0,hG,-,-⟩:=h.i
  exact ⟨hi,hb,h.wb,h.l2,h.l3,h.g2,h.g3,h.z2,h.z3,h.g7,h.ne,hk.blk h.box (Ne.symm h.ne) (by simp),row39_keep h.row hG (by decide) hk⟩
theorem RtAt.below (h:RtAt g b2 b3 b7 tl acc v s1 s2 s3 s4 s5 w w0 w1) (hb:Below w1.heap.size w1 w2):RtAt g b2 b3 b7 tl acc v s1 s2 s3 s4 s5 w w0 w2:=
  ⟨h.i.below hb,below_step h.b hb,h.wb,h.l2,h.l3,h.g2,h.g3,h.z2,h.z3,h.g7,h.ne,blk_below h.box hb,Kd.R_below h.row hb⟩
theorem RtAt.app (h:RtAt g b2 b3 b7 tl acc v s1 s2 s3 s4 s5 w w0 w1) {acc':List (S34)} {v1:Value} (hr:Kd.R k34 34 w2 w0.heap.size (fun _=>True) v1 acc') (hg:w1.grownBy w2 v.ownBlock):RtAt g b2 b3 b7 tl acc' v1 s1 s2 s3 s4 s5 w w0 (w2.setCell ⟨b7,0,none⟩ v1):=by
  obtain ⟨A0,c0,hG,-,-⟩:=h.i
  have ng:some g≠v.ownBlock:=Kd.R_ne h.row hG (by decide)
  have hx:=(hg.block b7 (blk_lt h.box) (Kd.R_ne h.row h.box (by decide))).trans h.box
  exact ⟨(h.i.grown hg ng).far h.ne _,below_set (pw_below_grown h.b v.ownBlock h.b.size hg (fun k e=>Kd.R_base h.row k e)) h.g7,h.wb,h.l2,h.l3,h.g2,h.g3,h.z2,h.z3,h.g7,h.ne,blk_put hx 0 _ rfl,Kd.R_set hr hx (by decide) 0 _⟩
theorem RtAt.cells (h:RtAt g b2 b3 b7 tl acc v s1 s2 s3 s4 s5 w w0 w1):w1.cell? ⟨g,1,none⟩=some (.int .i64 s1)∧w1.cell? ⟨g,4,none⟩=some (.int .i64 s4)∧w1.cell? ⟨g,5,none⟩=some (.int .i64 s5)∧w1.cell? ⟨b7,0,none⟩=some v:=by
  obtain ⟨A0,c0,hG,-,-⟩:=h.i
  exact ⟨blk_cell hG 1,blk_cell hG 4,blk_cell hG 5,blk_cell h.box 0⟩
end
theorem r06_Text.calls (k:Nat) (a:ByteArray) (r1:List (S34)) (r2 r3:Int) (w:World) (h:r06_Text.f k a=some (r1,r2,r3)):
    Calls Try.prog 22 #[.string a] w fun e w'=>∃ v0_:Value,e=.returned (.tuple #[.agg #[v0_],.agg #[.int .i64 r2,.int .i64 r3]])∧Kd.R k34 34 w' w.heap.size (fun _=>True) v0_ r1∧Below w.heap.size w w':=by
  have hu24:=Try.underlying24
  have hu28:=Try.underlying28
  have hu34:=Try.underlying34
  have hu89:=Try.underlying89
  unfold r06_Text.f at h
  obtain ⟨⟨tl,t2,t3⟩,hs,h⟩:=Option.bind_eq_some_iff.mp h
  have HS:=aM hs
  have HH:=aM h
  clear hs h
  go_enter Try.func22,Try.ntmps22
  have hz2:=blk_alloc (blk_new w (.cells #[.slice none 0 0] 24)) (.cells #[.int .i64 0,.int .i64 0] 28)
  have hz3:=blk_new (w.alloc (.cells #[.slice none 0 0] 24)) (.cells #[.int .i64 0,.int .i64 0] 28)
  have hsz:(w.alloc (.cells #[.slice none 0 0] 24)).heap.size=w.heap.size+1:=by simp
  rw [hsz] at hz3
  have hb0:=below_alloc (below_alloc (Below.refl w.heap.size w) (.cells #[.slice none 0 0] 24)) (.cells #[.int .i64 0,.int .i64 0] 28)
  clear hsz
  go_upto_region 1 with (fail)
  generalize (w.alloc (.cells #[.slice none 0 0] 24)).alloc (.cells #[.int .i64 0,.int .i64 0] 28)=W0 at hz2 hz3 hb0 ⊢
  have HZ2:=aM hz2
  have HZ3:=aM hz3
  have HB:=aM hb0
  clear hz2 hz3 hb0
  go_wp2_with fail
  refine (r02_Split.calls k a tl t2 t3 _ HS.out).mono ?_
  rintro e w1 ⟨v0,rfl,hr1,hb1⟩
  obtain ⟨A0,c0,e0,hl0,hC0⟩:=Kd.R_reads hr1
  subst e0
  have hbx:=below_alloc (Below.refl w1.heap.size w1) (.cells #[.int .i64 t2,.int .i64 t3] 28)
  have HBE:=aM (blk_new w1 (.cells #[.int .i64 t2,.int .i64 t3] 28))
  have HY2:=aM (blk_below (blk_below HZ2.out hb1) hbx)
  have HY3:=aM (blk_below (blk_below HZ3.out hb1) hbx)
  have HB1:=aM (below_step (below_step HB.out hb1) hbx)
  have HC:=aM (Kd.C_below hC0 hbx)
  have HLT:=aM (show w.heap.size+1<w1.heap.size from blk_lt (blk_below HZ3.out hb1))
  clear hr1 hb1 hl0 hC0 hbx
  go_upto_if 16 with (fail)
  (try simp only [Act.put,qA,qB,qC])
  generalize w1.alloc (.cells #[.int .i64 t2,.int .i64 t3] 28)=W1 at HBE HY2 HY3 HB1 HC ⊢
  have h:=HH.out
  have k0_:=blk_cell HBE.out 0
  have k1_:=blk_cell HBE.out 1
  by_cases ct:t2=0
  rotate_left
  · rw [if_neg ct] at h
    have ct1:(t2 !=0)=true:=bne_iff_ne.mpr ct
    (first | rw [ct1] | (simp only [i64_w,i32_w];rw [ct1]) | skip)
    simp only [Option.some.injEq,Prod.mk.injEq] at h
    obtain ⟨rfl,rfl,rfl⟩:=h
    clear ct
    have n1:w1.heap.size≠w.heap.size:=by have:=HLT.out;omega
    have n2:w1.heap.size≠w.heap.size+1:=by have:=HLT.out;omega
    go_upto_region 3 with (fail)
    have z0_:W1.drew.cell? ⟨w.heap.size,0,none⟩=some (.slice none 0 0):=(blk_cell HY2.out 0)
    have f0_:W1.drew.frozen? ⟨w.heap.size,0,none⟩=false:=blk_frozen HY2.out 0
    have y0_:W1.drew.cell? ⟨w.heap.size+1,0,none⟩=some (.int .i64 0):=(blk_cell HY3.out 0)
    have y1_:W1.drew.cell? ⟨w.heap.size+1,1,none⟩=some (.int .i64 0):=(blk_cell HY3.out 1)
    have g0_:W1.drew.frozen? ⟨w.heap.size+1,0,none⟩=false:=blk_frozen HY3.out 0
    have g1_:W1.drew.frozen? ⟨w.heap.size+1,1,none⟩=false:=blk_frozen HY3.out 1
    have y0'_:W1.cell? ⟨w.heap.size+1,0,none⟩=some (.int .i64 0):=(blk_cell HY3.out 0)
    have y1'_:W1.cell? ⟨w.heap.size+1,1,none⟩=some (.int .i64 0):=(blk_cell HY3.out 1)
    have g0'_:W1.frozen? ⟨w.heap.size+1,0,none⟩=false:=blk_frozen HY3.out 0
    have g1'_:W1.frozen? ⟨w.heap.size+1,1,none⟩=false:=blk_frozen HY3.out 1
    refine start_ (n:=4) (S:=fun w'=>w'.cell? ⟨w1.heap.size,0,none⟩=some (.int .i64 t2)∧w'.cell? ⟨w1.heap.size,1,none⟩=some (.int .i64 t3)) (ds:=[3]) #[false,false,false,false] (by kernel_rfl) rfl rfl ⟨k0_,k1_⟩ (fun hHeld=>?_)
    refine pure_ (i:=0) (N:=some 17) (v:=?_) (a':=?_) #[true,false,false,false] rfl rfl (by kernel_rfl) (fun _ _ _ h=>h) (Or.inl ⟨by rfl,?_⟩) ?_ ?_
    rotate_left
    · intro w'
      go_simp
      with_reducible rfl
    rotate_left
    · simp only [Act.put,qA,qB,qC,i64_w,i32_w]
      rfl
    refine take_ (i:=1) (N:=some 18) (v:=?_) (a':=?_) #[true,true,false,false] rfl rfl (by kernel_rfl) (fun _ _ _ h=>h) (Or.inl ⟨by rfl,?_⟩) hHeld ?_ ?_
    rotate_left
    · rintro w' ⟨s0,s1⟩
      go_simp
      with_reducible rfl
    rotate_left
    · simp only [Act.put,qA,qB,qC,i64_w,i32_w]
      rfl
    refine one_ (i:=2) (N:=none) #[true,true,true,false] rfl rfl (by kernel_rfl) (by decide) (fun K hK=>?_)
    refine skip_ (w1:=?_) (by rfl) rfl ?_ ?_
    rotate_left
    · go_simp
      rfl
    refine hK.out _ _ ⟨((blk_cell ((Below.heap_setCell W1.drew ⟨w.heap.size,0,none⟩ (.slice none 0 0) w1.heap.size n1).trans (show W1.drew.heap[w1.heap.size]?=_ from HBE.out)) 0).trans rfl),((blk_cell ((Below.heap_setCell W1.drew ⟨w.heap.size,0,none⟩ (.slice none 0 0) w1.heap.size n1).trans (show W1.drew.heap[w1.heap.size]?=_ from HBE.out)) 1).trans rfl)⟩ (fun hHeld=>?_)
    clear hK K
    refine last_ (i:=3) (N:=none) #[true,true,true,true] rfl rfl (by kernel_rfl) (by decide) (fun K hK=>?_)
    refine skip_ (w1:=?_) (by rfl) rfl ?_ ?_
    rotate_left
    · go_simp
      rfl
    refine hK.out _ _ ?_
    clear hK K
    refine done_ (by kernel_rfl) ?_
    go_wp2
    (try simp only [Exit.inBlock,Exit.then])
    have hq2:(((W1.drew.setCell ⟨w.heap.size,0,none⟩ (.slice none 0 0)).setCell ⟨w.heap.size+1,0,none⟩ (.int .i64 t2)).setCell ⟨w.heap.size+1,1,none⟩ (.int .i64 t3)).heap[w.heap.size]?=some (.cells #[(.slice none 0 0)] 24 (0,0)):=(Below.heap_setCell _ ⟨w.heap.size+1,1,none⟩ _ _ (by show w.heap.size≠w.heap.size+1;omega)).trans ((Below.heap_setCell _ ⟨w.heap.size+1,0,none⟩ _ _ (by show w.heap.size≠w.heap.size+1;omega)).trans (blk_put (show W1.drew.heap[w.heap.size]?=_ from HY2.out) 0 _ rfl))
    have hq3:(((W1.drew.setCell ⟨w.heap.size,0,none⟩ (.slice none 0 0)).setCell ⟨w.heap.size+1,0,none⟩ (.int .i64 t2)).setCell ⟨w.heap.size+1,1,none⟩ (.int .i64 t3)).heap[w.heap.size+1]?=some (.cells #[(.int .i64 t2),(.int .i64 t3)] 28 (0,0)):=blk_put (blk_put ((Below.heap_setCell _ ⟨w.heap.size,0,none⟩ _ _ (by show w.heap.size+1≠w.heap.size;omega)).trans (show W1.drew.heap[w.heap.size+1]?=_ from HY3.out)) 0 _ rfl) 1 _ rfl
    have hqb:Below w.heap.size w (((W1.drew.setCell ⟨w.heap.size,0,none⟩ (.slice none 0 0)).setCell ⟨w.heap.size+1,0,none⟩ (.int .i64 t2)).setCell ⟨w.heap.size+1,1,none⟩ (.int .i64 t3)):=below_set (below_set (below_set (below_drew1 HB1.out) (Nat.le_refl _)) (Nat.le_succ _)) (Nat.le_succ _)
    refine bodyPost_ret (results_cc rfl _ _ w.heap.size (w.heap.size+1) 24 28 #[(.slice none 0 0)] #[(.int .i64 t2),(.int .i64 t3)] (0,0) (0,0) _ _ rfl hq2 Try.underlying24 rfl (by kernel_rfl) rfl hq3 Try.underlying28 rfl (by kernel_rfl)) rfl ?_
    exact ⟨_,rfl,Kd.R_nil _ _ _ _ _,hqb⟩
  rw [if_pos ct] at h
  have ct1:(t2 !=0)=false:=bne_eq_false_iff_eq.mpr ct
  (first | rw [ct1] | (simp only [i64_w,i32_w];rw [ct1]) | skip)
  obtain ⟨⟨l0,l1,l2,l3,l4,l5⟩,hlo,h⟩:=Option.bind_eq_some_iff.mp h
  have HLO0:=aM hlo
  have HR:=aM h
  clear ct hlo h HH k0_ k1_
  have hx0:(((W1.alloc (.cells #[.slice A0 tl.length c0,.int .i64 0,.int .i64 (a.size:Int),.int .i64 0,.int .i64 0,.int .i64 0] 89)).alloc (.cells #[.slice none 0 0] 24))).heap[W1.heap.size+1]?=some (.cells #[.slice none 0 0] 24 (0,0)):=by
    have h1:=blk_new (W1.alloc (.cells #[.slice A0 tl.length c0,.int .i64 0,.int .i64 (a.size:Int),.int .i64 0,.int .i64 0,.int .i64 0] 89)) (.cells #[.slice none 0 0] 24)
    rwa [show (W1.alloc (.cells #[.slice A0 tl.length c0,.int .i64 0,.int .i64 (a.size:Int),.int .i64 0,.int .i64 0,.int .i64 0] 89)).heap.size=W1.heap.size+1 by simp] at h1
  have HX:=aM (show RtAt W1.heap.size w.heap.size (w.heap.size+1) (W1.heap.size+1) tl [] (.slice none 0 0) 0 (a.size:Int) 0 0 0 w W1 ((W1.alloc (.cells #[.slice A0 tl.length c0,.int .i64 0,.int .i64 (a.size:Int),.int .i64 0,.int .i64 0,.int .i64 0] 89)).alloc (.cells #[.slice none 0 0] 24)) from
    ⟨(IsS89.new W1 W1 A0 c0 tl 0 (a.size:Int) 0 0 0 (Below.refl _ _) HC.out).alloc _,below_alloc (below_alloc (Below.refl _ _) _) _,HB1.out,blk_lt HY2.out,blk_lt HY3.out,Nat.le_refl _,Nat.le_succ _,HY2.out,HY3.out,Nat.le_succ _,Nat.ne_of_lt (Nat.lt_succ_self _),hx0,Kd.R_nil _ _ _ _ _⟩)
  clear hx0
  go_upto_block 0 with (fail)
  (try simp only [Act.put,qA,qB,qC])
  generalize (W1.alloc (.cells #[.slice A0 tl.length c0,.int .i64 0,.int .i64 (a.size:Int),.int .i64 0,.int .i64 0,.int .i64 0] 89)).alloc (.cells #[.slice none 0 0] 24)=W3 at HX ⊢
  go_cut [] (fun wc=>∃ v,Aside0 (RtAt W1.heap.size w.heap.size (w.heap.size+1) (W1.heap.size+1) tl l0 v l1 l2 l3 l4 l5 w W1 wc))
  case first=>
    go_wp2
    (try simp only [Act.put,qA,qB,qC])
    go_loopg [] k (fun kq w'=>∃ (acc:List (S34)) (v:Value) (t1 t2 t3 t4 t5:Int),Aside0 (rtLoop kq tl acc t1 t2 t3 t4 t5=some (l0,l1,l2,l3,l4,l5))∧Aside0 (kq≤k)∧Aside0 (RtAt W1.heap.size w.heap.size (w.heap.size+1) (W1.heap.size+1) tl acc v t1 t2 t3 t4 t5 w W1 w'))
    case atStart=>exact ⟨_,_,_,_,_,_,_,⟨HLO0.out⟩,⟨Nat.le_refl _⟩,⟨HX.out⟩⟩
    case round=>
      clear HX HLO0
      obtain ⟨acc,v,t1,t2,t3,t4,t5,HLO,HKQ,HX⟩:=hrel
      obtain ⟨A7,c7,e7⟩:=Kd.R_slice HX.out.row
      subst e7
      obtain ⟨hc1,hc4,-,hc7⟩:=HX.out.cells
      cases gk with
      | zero=>exact absurd HLO.out (by simp [rtLoop])
      | succ k1=>
        have hl:=HLO.out
        clear HLO
        simp only [rtLoop] at hl
        by_cases cl:t4=0∧t1<(tl.length:Int)
        · rw [if_pos cl] at hl
          have g3:(t4==0)=true:=beq_iff_eq.mpr cl.1
          have g1:decide (t1<(tl.length:Int))=true:=decide_eq_true cl.2
          clear cl
          by_cases h32:acc.length≥32
          · rw [if_pos h32] at hl
            have g5:decide (32≤(acc.length:Int))=true:=decide_eq_true (by omega)
            obtain ⟨⟨z1,z2,z3,z4,z5⟩,hz,hl⟩:=Option.bind_eq_some_iff.mp hl
            have HZ:=aM hz
            obtain ⟨rfl,rfl,rfl,rfl,rfl,rfl⟩:acc=l0∧z1=l1∧z2=l2∧z3=l3∧z4=l4∧z5=l5:=by simpa using hl
            clear h32 hz hl
            go_wp2_with fail
            refine (r06_Reader_fail.calls _ tl _ _ _ _ _ 6 _ _ _ _ _ W1 _ HX.out.i HX.out.b HZ.out).mono ?_
            rintro e w3 ⟨rfl,hi_,hb_,hk_⟩
            have HX3:=aM (HX.out.call hi_ hb_ hk_)
            clear hi_ hb_ hk_ HX hc1 hc4 hc7
            go_wp2_with fail
            go_meet
            exact ⟨_,HX3⟩
          · rw [if_neg h32] at hl
            have g5:decide (32≤(acc.length:Int))=false:=decide_eq_false (by omega)
            have HLN:=aM (show acc.length<1000000000000 by omega)
            obtain ⟨⟨b0,b1,b2,b3,b4,y1,y2,y3,y4,y5⟩,hbo,hl⟩:=Option.bind_eq_some_iff.mp hl
            have HBO:=aM hbo
            have HNX:=aM hl
            clear h32 hbo hl
            go_wp2_with fail
            refine (r06_Reader_function.calls k1 _ tl _ _ _ _ _ b0 b1 b2 b3 b4 y1 y2 y3 y4 y5 W1 _ HX.out.i HX.out.b HBO.out).mono ?_
            rintro e w3 ⟨v1,v3,rfl,hr1,hr3,hi3,hb3,hk3⟩
            obtain ⟨A5,c5,rfl⟩:=Kd.R_slice hr1
            obtain ⟨A6,c6,rfl⟩:=Kd.R_slice hr3
            have hx3:=HX.out.call hi3 hb3 hk3
            have HX3:=aM (hx3.below (below_alloc (Below.refl _ _) (.cells #[.string b0,.slice A5 b1.length c5,.int .i64 b2,.slice A6 b3.length c6,.int .i64 b4] 34)))
            have HR1:=aM (Kd.R_alloc (Kd.R_lower hr1 HX.out.b.size) (.cells #[.string b0,.slice A5 b1.length c5,.int .i64 b2,.slice A6 b3.length c6,.int .i64 b4] 34))
            have HR3:=aM (Kd.R_alloc (Kd.R_lower hr3 HX.out.b.size) (.cells #[.string b0,.slice A5 b1.length c5,.int .i64 b2,.slice A6 b3.length c6,.int .i64 b4] 34))
            have hbx:=blk_new w3 (.cells #[.string b0,.slice A5 b1.length c5,.int .i64 b2,.slice A6 b3.length c6,.int .i64 b4] 34)
            clear hr1 hr3 hi3 hb3 hk3 HX hc1 hc4 hc7 hx3
            go_upto_region 10 with (fail)
            generalize w3.alloc (.cells #[.string b0,.slice A5 b1.length c5,.int .i64 b2,.slice A6 b3.length c6,.int .i64 b4] 34)=W6 at HX3 HR1 HR3 hbx ⊢
            have z0_:W6.cell? ⟨w3.heap.size,0,none⟩=some (.string b0):=(blk_cell hbx 0).trans rfl
            have z1_:W6.cell? ⟨w3.heap.size,1,none⟩=some (.slice A5 b1.length c5):=(blk_cell hbx 1).trans rfl
            have z2_:W6.cell? ⟨w3.heap.size,2,none⟩=some (.int .i64 b2):=(blk_cell hbx 2).trans rfl
            have z3_:W6.cell? ⟨w3.heap.size,3,none⟩=some (.slice A6 b3.length c6):=(blk_cell hbx 3).trans rfl
            have z4_:W6.cell? ⟨w3.heap.size,4,none⟩=some (.int .i64 b4):=(blk_cell hbx 4).trans rfl
            have zz_:=HX3.out.cells.2.2.2
            clear hbx
            go_wp2_with (first | ((with_reducible refine gate_builtin (b:=.append) (xs:=#[.tmp 49,.tmp 51]) rfl ?_);at_builtin;refine Kd.R_append k34 W1.heap.size rfl (.tmp 49) (.tmp 51) 22 34 (.agg #[.string ⟨#[]⟩,.slice none 0 0,.int .i64 0,.slice none 0 0,.int .i64 0]) 80 rfl Try.underlying22 (by kernel_rfl) rfl (by decide) (by omega) (.slice A7 acc.length c7) acc (⟨b0,b1,b2,b3,b4⟩:S34) [.string b0,.slice A5 b1.length c5,.int .i64 b2,.slice A6 b3.length c6,.int .i64 b4] (fun _=>True) (fun k=>True∧some k≠(Value.slice A7 acc.length c7).ownBlock) rfl rfl (k34_mkM _ _ _ (⟨b0,b1,b2,b3,b4⟩:S34) (Kd.R_apart' HR1.out (Kd.R_typed HX3.out.row) (by decide)) (Kd.R_apart' HR3.out (Kd.R_typed HX3.out.row) (by decide))) (fun k hk=>⟨trivial,hk.2⟩) (fun k hk=>trivial) HX3.out.row (Below.refl _ _) (below_size HX3.out.b) (by have:=HLN.out;omega) ?_;intro v1 w4_ hr4 hb4 hg4 hv4;obtain ⟨A6,c6,e6⟩:=Kd.R_slice hr4;rw [List.length_append,List.length_singleton] at e6;subst e6;have HX9:=aM (HX3.out.app hr4 hg4);have B4:=(hg4.block (W1.heap.size+1) (blk_lt HX3.out.box) (Kd.R_ne HX3.out.row HX3.out.box (by decide))).trans HX3.out.box;have c4_:=blk_cell B4 0;have f4_:=blk_frozen B4 0;clear hr4 hb4 hg4 hv4 B4))
            go_roundg k1
            case measure=>have:=HKQ.out;omega
            case rel=>exact ⟨_,_,_,_,_,_,_,⟨HNX.out⟩,⟨by have:=HKQ.out;omega⟩,⟨HX9.out⟩⟩
        · rw [if_neg cl] at hl
          obtain ⟨rfl,rfl,rfl,rfl,rfl,rfl⟩:acc=l0∧t1=l1∧t2=l2∧t3=l3∧t4=l4∧t5=l5:=by simpa using hl
          clear hl
          by_cases c3z:t4=0
          · have g3:(t4==0)=true:=beq_iff_eq.mpr c3z
            have g1:decide (t1<(tl.length:Int))=false:=decide_eq_false (fun e=>cl ⟨c3z,e⟩)
            clear cl c3z
            go_wp2_with fail
            go_meet
            exact ⟨_,HX⟩
          · have g3:(t4==0)=false:=beq_eq_false_iff_ne.mpr c3z
            clear cl c3z
            go_wp2_with fail
            go_meet
            exact ⟨_,HX⟩
  case rest=>
    clear HX HLO0
    obtain ⟨v,HX⟩:=hcut
    obtain ⟨A7,c7,e7⟩:=Kd.R_slice HX.out.row
    subst e7
    obtain ⟨-,hc4,hc5,hc7⟩:=HX.out.cells
    have h:=HR.out
    have n1:W1.heap.size≠w.heap.size:=by have:=HX.out.l2;omega
    have n2:W1.heap.size≠w.heap.size+1:=by have:=HX.out.l3;omega
    have n3:W1.heap.size+1≠w.heap.size:=by have:=HX.out.l2;omega
    have n4:W1.heap.size+1≠w.heap.size+1:=by have:=HX.out.l3;omega
    by_cases ce:l4=0
    · rw [if_pos ce] at h
      have g5:(l4 !=0)=false:=bne_eq_false_iff_eq.mpr ce
      obtain ⟨rfl,rfl,rfl⟩:l0=r1∧0=r2∧0=r3:=by simpa using h
      clear h ce
      have z0_:=blk_cell HX.out.zero2 0
      have f0_:=blk_frozen HX.out.zero2 0
      have y0_:=blk_cell HX.out.zero3 0
      have y1_:=blk_cell HX.out.zero3 1
      have g0_:=blk_frozen HX.out.zero3 0
      have g1_:=blk_frozen HX.out.zero3 1
      have HRR:=aM (Kd.R_set (Kd.R_set (Kd.R_set HX.out.row HX.out.zero2 (by decide) 0 (.slice A7 l0.length c7)) ((Below.heap_setCell _ ⟨w.heap.size,0,none⟩ _ _ (by show w.heap.size+1≠w.heap.size;omega)).trans HX.out.zero3) (by decide) 0 (.int .i64 0)) (blk_put ((Below.heap_setCell _ ⟨w.heap.size,0,none⟩ _ _ (by show w.heap.size+1≠w.heap.size;omega)).trans HX.out.zero3) 0 (.int .i64 0) rfl) (by decide) 1 (.int .i64 0))
      go_wp2
      have hq2:(((wc.setCell ⟨w.heap.size,0,none⟩ (.slice A7 l0.length c7)).setCell ⟨w.heap.size+1,0,none⟩ (.int .i64 0)).setCell ⟨w.heap.size+1,1,none⟩ (.int .i64 0)).heap[w.heap.size]?=some (.cells #[(.slice A7 l0.length c7)] 24 (0,0)):=(Below.heap_setCell _ ⟨w.heap.size+1,1,none⟩ _ _ (by show w.heap.size≠w.heap.size+1;omega)).trans ((Below.heap_setCell _ ⟨w.heap.size+1,0,none⟩ _ _ (by show w.heap.size≠w.heap.size+1;omega)).trans (blk_put HX.out.zero2 0 _ rfl))
      have hq3:(((wc.setCell ⟨w.heap.size,0,none⟩ (.slice A7 l0.length c7)).setCell ⟨w.heap.size+1,0,none⟩ (.int .i64 0)).setCell ⟨w.heap.size+1,1,none⟩ (.int .i64 0)).heap[w.heap.size+1]?=some (.cells #[(.int .i64 0),(.int .i64 0)] 28 (0,0)):=blk_put (blk_put ((Below.heap_setCell _ ⟨w.heap.size,0,none⟩ _ _ (by show w.heap.size+1≠w.heap.size;omega)).trans HX.out.zero3) 0 _ rfl) 1 _ rfl
      have hqb:Below w.heap.size w (((wc.setCell ⟨w.heap.size,0,none⟩ (.slice A7 l0.length c7)).setCell ⟨w.heap.size+1,0,none⟩ (.int .i64 0)).setCell ⟨w.heap.size+1,1,none⟩ (.int .i64 0)):=below_set (below_set (below_set HX.out.bel (Nat.le_refl _)) (Nat.le_succ _)) (Nat.le_succ _)
      refine bodyPost_ret (results_cc rfl _ _ w.heap.size (w.heap.size+1) 24 28 #[(.slice A7 l0.length c7)] #[(.int .i64 0),(.int .i64 0)] (0,0) (0,0) _ _ rfl hq2 Try.underlying24 rfl (by kernel_rfl) rfl hq3 Try.underlying28 rfl (by kernel_rfl)) rfl ?_
      exact ⟨_,rfl,Kd.R_lower HRR.out (below_size HB1.out),hqb⟩
    · rw [if_neg ce] at h
      have g5:(l4 !=0)=true:=bne_iff_ne.mpr ce
      obtain ⟨rfl,rfl,rfl⟩:[]=r1∧l4=r2∧l5=r3:=by simpa using h
      clear h ce
      go_upto_region 12 with (fail)
      have z0_:wc.drew.cell? ⟨w.heap.size,0,none⟩=some (.slice none 0 0):=(blk_cell HX.out.zero2 0)
      have f0_:wc.drew.frozen? ⟨w.heap.size,0,none⟩=false:=blk_frozen HX.out.zero2 0
      have y0_:wc.drew.cell? ⟨w.heap.size+1,0,none⟩=some (.int .i64 0):=(blk_cell HX.out.zero3 0)
      have y1_:wc.drew.cell? ⟨w.heap.size+1,1,none⟩=some (.int .i64 0):=(blk_cell HX.out.zero3 1)
      have g0_:wc.drew.frozen? ⟨w.heap.size+1,0,none⟩=false:=blk_frozen HX.out.zero3 0
      have g1_:wc.drew.frozen? ⟨w.heap.size+1,1,none⟩=false:=blk_frozen HX.out.zero3 1
      have y0'_:wc.cell? ⟨w.heap.size+1,0,none⟩=some (.int .i64 0):=(blk_cell HX.out.zero3 0)
      have y1'_:wc.cell? ⟨w.heap.size+1,1,none⟩=some (.int .i64 0):=(blk_cell HX.out.zero3 1)
      have g0'_:wc.frozen? ⟨w.heap.size+1,0,none⟩=false:=blk_frozen HX.out.zero3 0
      have g1'_:wc.frozen? ⟨w.heap.size+1,1,none⟩=false:=blk_frozen HX.out.zero3 1
      obtain ⟨AG,cG,hG,-,-⟩:=HX.out.i
      refine start_ (n:=7) (S:=fun w'=>w'.cell? ⟨W1.heap.size,4,none⟩=some (.int .i64 l4)∧w'.cell? ⟨W1.heap.size,5,none⟩=some (.int .i64 l5)) (ds:=[6]) #[false,false,false,false,false,false,false] (by kernel_rfl) rfl rfl ⟨hc4,hc5⟩ (fun hHeld=>?_)
      refine pure_ (i:=0) (N:=some 60) (v:=?_) (a':=?_) #[true,false,false,false,false,false,false] rfl rfl (by kernel_rfl) (fun _ _ _ h=>h) (Or.inl ⟨by rfl,?_⟩) ?_ ?_
      rotate_left
      · intro w'
        go_simp
        with_reducible rfl
      rotate_left
      · simp only [Act.put,qA,qB,qC,i64_w,i32_w]
        rfl
      refine pure_ (i:=1) (N:=some 61) (v:=?_) (a':=?_) #[true,true,false,false,false,false,false] rfl rfl (by kernel_rfl) (fun _ _ _ h=>h) (Or.inl ⟨by rfl,?_⟩) ?_ ?_
      rotate_left
      · intro w'
        go_simp
        with_reducible rfl
      rotate_left
      · simp only [Act.put,qA,qB,qC,i64_w,i32_w]
        rfl
      refine pure_ (i:=2) (N:=some 62) (v:=?_) (a':=?_) #[true,true,true,false,false,false,false] rfl rfl (by kernel_rfl) (fun _ _ _ h=>h) (Or.inl ⟨by rfl,?_⟩) ?_ ?_
      rotate_left
      · intro w'
        go_simp
        with_reducible rfl
      rotate_left
      · simp only [Act.put,qA,qB,qC,i64_w,i32_w]
        rfl
      refine pure_ (i:=3) (N:=some 63) (v:=?_) (a':=?_) #[true,true,true,true,false,false,false] rfl rfl (by kernel_rfl) (fun _ _ _ h=>h) (Or.inl ⟨by rfl,?_⟩) ?_ ?_
      rotate_left
      · intro w'
        go_simp
        with_reducible rfl
      rotate_left
      · simp only [Act.put,qA,qB,qC,i64_w,i32_w]
        rfl
      refine take_ (i:=4) (N:=some 64) (v:=?_) (a':=?_) #[true,true,true,true,true,false,false] rfl rfl (by kernel_rfl) (fun _ _ _ h=>h) (Or.inl ⟨by rfl,?_⟩) hHeld ?_ ?_
      rotate_left
      · rintro w' ⟨s0,s1⟩
        go_simp
        with_reducible rfl
      rotate_left
      · simp only [Act.put,qA,qB,qC,i64_w,i32_w]
        rfl
      refine one_ (i:=5) (N:=none) #[true,true,true,true,true,true,false] rfl rfl (by kernel_rfl) (by decide) (fun K hK=>?_)
      refine skip_ (w1:=?_) (by rfl) rfl ?_ ?_
      rotate_left
      · go_simp
        rfl
      refine hK.out _ _ ⟨((blk_cell ((Below.heap_setCell wc.drew ⟨w.heap.size,0,none⟩ (.slice none 0 0) W1.heap.size n1).trans (show wc.drew.heap[W1.heap.size]?=_ from hG)) 4).trans rfl),((blk_cell ((Below.heap_setCell wc.drew ⟨w.heap.size,0,none⟩ (.slice none 0 0) W1.heap.size n1).trans (show wc.drew.heap[W1.heap.size]?=_ from hG)) 5).trans rfl)⟩ (fun hHeld=>?_)
      clear hK K
      refine last_ (i:=6) (N:=none) #[true,true,true,true,true,true,true] rfl rfl (by kernel_rfl) (by decide) (fun K hK=>?_)
      refine skip_ (w1:=?_) (by rfl) rfl ?_ ?_
      rotate_left
      · go_simp
        rfl
      refine hK.out _ _ ?_
      clear hK K
      refine done_ (by kernel_rfl) ?_
      go_wp2
      (try simp only [Exit.inBlock,Exit.then])
      have hq2:(((wc.drew.setCell ⟨w.heap.size,0,none⟩ (.slice none 0 0)).setCell ⟨w.heap.size+1,0,none⟩ (.int .i64 l4)).setCell ⟨w.heap.size+1,1,none⟩ (.int .i64 l5)).heap[w.heap.size]?=some (.cells #[(.slice none 0 0)] 24 (0,0)):=(Below.heap_setCell _ ⟨w.heap.size+1,1,none⟩ _ _ (by show w.heap.size≠w.heap.size+1;omega)).trans ((Below.heap_setCell _ ⟨w.heap.size+1,0,none⟩ _ _ (by show w.heap.size≠w.heap.size+1;omega)).trans (blk_put (show wc.drew.heap[w.heap.size]?=_ from HX.out.zero2) 0 _ rfl))
      have hq3:(((wc.drew.setCell ⟨w.heap.size,0,none⟩ (.slice none 0 0)).setCell ⟨w.heap.size+1,0,none⟩ (.int .i64 l4)).setCell ⟨w.heap.size+1,1,none⟩ (.int .i64 l5)).heap[w.heap.size+1]?=some (.cells #[(.int .i64 l4),(.int .i64 l5)] 28 (0,0)):=blk_put (blk_put ((Below.heap_setCell _ ⟨w.heap.size,0,none⟩ _ _ (by show w.heap.size+1≠w.heap.size;omega)).trans (show wc.drew.heap[w.heap.size+1]?=_ from HX.out.zero3)) 0 _ rfl) 1 _ rfl
      have hqb:Below w.heap.size w (((wc.drew.setCell ⟨w.heap.size,0,none⟩ (.slice none 0 0)).setCell ⟨w.heap.size+1,0,none⟩ (.int .i64 l4)).setCell ⟨w.heap.size+1,1,none⟩ (.int .i64 l5)):=below_set (below_set (below_set (below_drew1 HX.out.bel) (Nat.le_refl _)) (Nat.le_succ _)) (Nat.le_succ _)
      refine bodyPost_ret (results_cc rfl _ _ w.heap.size (w.heap.size+1) 24 28 #[(.slice none 0 0)] #[(.int .i64 l4),(.int .i64 l5)] (0,0) (0,0) _ _ rfl hq2 Try.underlying24 rfl (by kernel_rfl) rfl hq3 Try.underlying28 rfl (by kernel_rfl)) rfl ?_
      exact ⟨_,rfl,Kd.R_nil _ _ _ _ _,hqb⟩
end Go.Proofs.Ytkjdblbgmomieaa.PSh
end
section
namespace Go.Proofs.Ytkjdblbgmomieaa.PSh
set_option maxHeartbeats 4000000
set_option maxRecDepth 100000
open Go.RowKit Go.Proofs.YtkjdblbgmomieaaW.PrintWords Go.Proofs.YtkjdblbgmomieaaW.PrintLast Go.Proofs.YtkjdblbgmomieaaW.PrintMore Go.Proofs.Ytkjdblbgmomieaa.Str
set_option linter.unusedVariables false
set_option linter.unusedSimpArgs false
structure OpRow where
  w:ByteArray
  t0:Int
  t1:Int
  m:Int
  traps:Bool
  reads:Bool
  writes:Bool
  seen:Bool
  ends:Bool
def noRow:OpRow:=⟨mk [],0,0,0,false,false,false,false,false⟩
def opRows:List OpRow:=[
  ⟨mk [],0,0,0,false,false,false,false,false⟩,
  ⟨mk [99,111,110,115,116],0,0,1,false,false,false,false,false⟩,
  ⟨mk [97,100,100],1,1,1,false,false,false,false,false⟩,
  ⟨mk [115,117,98],1,1,1,false,false,false,false,false⟩,
  ⟨mk [109,117,108],1,1,1,false,false,false,false,false⟩,
  ⟨mk [100,105,118],1,1,1,true,false,false,false,false⟩,
  ⟨mk [108,116],1,1,1,false,false,false,false,false⟩,
  ⟨mk [101,113],1,1,1,false,false,false,false,false⟩,
  ⟨mk [110,105,108],0,0,2,false,false,false,false,false⟩,
  ⟨mk [115,97,109,101],2,2,1,false,false,false,false,false⟩,
  ⟨mk [110,101,119],0,0,2,false,false,false,false,false⟩,
  ⟨mk [108,111,97,100,46,105],2,0,1,true,true,false,false,false⟩,
  ⟨mk [108,111,97,100,46,112],2,0,2,true,true,false,false,false⟩,
  ⟨mk [115,116,111,114,101,46,105],2,1,0,true,false,true,true,false⟩,
  ⟨mk [115,116,111,114,101,46,112],2,2,0,true,false,true,true,false⟩,
  ⟨mk [115,108,111,116],2,0,3,true,false,false,false,false⟩,
  ⟨mk [103,101,116,46,105],3,0,1,true,true,false,false,false⟩,
  ⟨mk [103,101,116,46,112],3,0,2,true,true,false,false,false⟩,
  ⟨mk [112,117,116,46,105],3,1,0,true,false,true,true,false⟩,
  ⟨mk [112,117,116,46,112],3,2,0,true,false,true,true,false⟩,
  ⟨mk [112,104,105],0,0,0,false,false,false,false,false⟩,
  ⟨mk [99,97,108,108],0,0,0,true,true,true,true,false⟩,
  ⟨mk [111,117,116],1,0,0,false,false,false,true,false⟩,
  ⟨mk [112,111,108,108],0,0,0,false,false,false,true,false⟩,
  ⟨mk [114,101,108,111,99],0,0,0,false,false,false,false,false⟩,
  ⟨mk [109,97,114,107],2,0,0,false,false,false,true,false⟩,
  ⟨mk [98,114],0,0,0,false,false,false,true,true⟩,
  ⟨mk [105,102],1,0,0,false,false,false,true,true⟩,
  ⟨mk [114,101,116],0,0,0,false,false,false,true,true⟩,
  ⟨mk [102,97,105,108],0,0,0,true,false,false,true,true⟩]
def rowCells (r:OpRow):List Value:=[.string r.w,.int .i64 r.t0,.int .i64 r.t1,.int .i64 r.m,.bool r.traps,.bool r.reads,.bool r.writes,.bool r.seen,.bool r.ends]
def rowsV:Array Value:=(opRows.flatMap rowCells).toArray
def zerosV:Array Value:=((List.replicate 30 noRow).flatMap rowCells).toArray
theorem wpList_buildTo1 {P:Program} {ops:Array Oper} {rest:List Oper} {o:Oper} {a:Act} {w:World} {Q:Exit→Act→World→Prop} (hg:o.guard=none) (t:TypeId) (parts:Array (Nat × Operand)) (ho:o.op=.build t parts) (cells:Array Value)
    (hf:P.built t (parts.map fun (i,x)=>(i,a.eval x)).toList=some cells)
    (h:wpList P ops Q rest (a.put o.dst (.agg cells)) w):wpList P ops Q (o::rest) a w:=by
  refine wpList_build hg t parts ho ?_ ?_
  · rw [hf];rfl
  · rw [hf];exact h
theorem wpList_store_newR {P:Program} {ops:Array Oper} {rest:List Oper} {o:Oper} {a:Act} {w:World} {Q:Exit→Act→World→Prop} (hgd:o.guard=none) (ty:TypeId) (x y:Operand) (ho:o.op=.store ty x y)
    (old cells:Array Value) (hx:a.eval x=.pointer (some ⟨w.heap.size,0,none⟩)) (hy:a.eval y=.agg cells)
    (t:TypeId) (hi:(P.info? ty).map (·.size)=some cells.size) (hold:old.size=cells.size) (h1:cells.all (·.oneCell')=true)
    (h:wpList P ops Q rest (a.put o.dst undef) (w.alloc (.cells cells t))):wpList P ops Q (o::rest) a (w.alloc (.cells old t)):=by
  refine wpList_store_row hgd ty x y ho w.heap.size cells hx hy t old (heap_alloc_last _ _) hi hold h1 ?_
  rw [World.setRow_alloc_new]
  exact h
theorem ops_rows.calls (w:World):Calls Try.prog 93 #[] w fun e w'=>e=.returned (.agg rowsV)∧Below w.heap.size w w':=by
  have hz:=(zero_of_info (P:=Try.prog) (t:=114) (v:=.agg zerosV) (n:=270) (by kernel_rfl)).1
  go_enter Try.func93,Try.ntmps93
  go_wp2_with (first | ((with_reducible refine gate_dst (N:=49) rfl ?_);refine wpList_buildTo1 rfl 114 _ rfl rowsV (by kernel_rfl) ?_) | ((with_reducible refine gate_store (t:=114) (p:=0) (v:=.tmp 49) rfl ?_);refine wpList_store_newR rfl 114 (.tmp 0) (.tmp 49) rfl zerosV rowsV rfl rfl 114 (by kernel_rfl) (by kernel_rfl) (by kernel_rfl) ?_))
  refine bodyPost_ret (results_single rfl (Vals.cell w.heap.size 114 rowsV (0,0) _ rfl (blk_new w _) Try.underlying114 rfl (by kernel_rfl) Vals.nil)) rfl ⟨rfl,below_alloc (Below.refl _ _) _⟩
theorem run_index_rows (n:Nat) (hn:n<30) (w:World):(Instr.index 114 (.agg rowsV) (.int .i64 n)).run Try.prog w=.ok (.agg (rowCells (opRows.getD n noRow)).toArray) w:=by
  have h:n=0∨n=1∨n=2∨n=3∨n=4∨n=5∨n=6∨n=7∨n=8∨n=9∨n=10∨n=11∨n=12∨n=13∨n=14∨n=15∨n=16∨n=17∨n=18∨n=19∨n=20∨n=21∨n=22∨n=23∨n=24∨n=25∨n=26∨n=27∨n=28∨n=29:=by omega
  rcases h with rfl | rfl | rfl | rfl | rfl | rfl | rfl | rfl | rfl | rfl | rfl | rfl | rfl | rfl | rfl | rfl | rfl | rfl | rfl | rfl | rfl | rfl | rfl | rfl | rfl | rfl | rfl | rfl | rfl | rfl<;>(show _=_;kernel_rfl)
def opOf (op:Int):OpRow:=if op<1∨29<op then noRow else opRows.getD op.toNat noRow
def ops_of.f (a0:Int):Option (ByteArray × Int × Int × Int × Bool × Bool × Bool × Bool × Bool):=
  some ((opOf a0).w,(opOf a0).t0,(opOf a0).t1,(opOf a0).m,(opOf a0).traps,(opOf a0).reads,(opOf a0).writes,(opOf a0).seen,(opOf a0).ends)
theorem of_calls (a0:Int) (w:World):Calls Try.prog 69 #[.int .i64 a0] w fun e w'=>e=.returned (.agg (rowCells (opOf a0)).toArray)∧Below w.heap.size w w':=by
  by_cases h1:a0<1
  · have d1:decide (a0<1)=true:=decide_eq_true h1
    have e:opOf a0=noRow:=if_pos (.inl h1)
    rw [e]
    clear e h1
    go_enter Try.func69,Try.ntmps69
    go_wp2
    refine bodyPost_ret (results_single rfl (Vals.cell w.heap.size 96 (rowCells noRow).toArray (0,0) _ rfl (blk_new w _) Try.underlying96 rfl (by kernel_rfl) Vals.nil)) rfl ⟨rfl,below_alloc (Below.refl _ _) _⟩
  · have d1:decide (a0<1)=false:=decide_eq_false h1
    by_cases h2:29<a0
    · have d2:decide (29<a0)=true:=decide_eq_true h2
      have e:opOf a0=noRow:=if_pos (.inr h2)
      rw [e]
      clear e h1 h2
      go_enter Try.func69,Try.ntmps69
      go_wp2
      refine bodyPost_ret (results_single rfl (Vals.cell w.heap.size 96 (rowCells noRow).toArray (0,0) _ rfl (blk_new w _) Try.underlying96 rfl (by kernel_rfl) Vals.nil)) rfl ⟨rfl,below_alloc (Below.refl _ _) _⟩
    · have d2:decide (29<a0)=false:=decide_eq_false h2
      obtain ⟨n,rfl⟩:∃ n:Nat,a0=n:=⟨a0.toNat,by omega⟩
      have hn:n<30:=by omega
      obtain ⟨r,hr⟩:∃ r,opRows.getD n noRow=r:=⟨_,rfl⟩
      have hix:∀ W,(Instr.index 114 (.agg rowsV) (.int .i64 n)).run Try.prog W=.ok (.agg (rowCells r).toArray) W:=fun W=>hr ▸ run_index_rows n hn W
      have e:opOf (n:Int)=opRows.getD n noRow:=if_neg (by omega)
      rw [e,hr]
      clear e h1 h2 hr
      go_enter Try.func69,Try.ntmps69
      go_wp2_with fail
      refine (ops_rows.calls _).mono ?_
      rintro e w1 ⟨rfl,hb⟩
      have HB:=aM hb
      have h1:=blk_below (blk_new w (.cells #[.string ⟨#[]⟩,.int .i64 0,.int .i64 0,.int .i64 0,.bool false,.bool false,.bool false,.bool false,.bool false] 96)) hb
      have H1:=aM h1
      have HB:=aM (below_step (below_alloc (Below.refl _ _) _) hb)
      clear h1 hb
      go_wp2_with (first | ((with_reducible refine gate_store (t:=96) (p:=2) (v:=.tmp 12) rfl ?_);refine wpList_store_row rfl 96 (.tmp 2) (.tmp 12) rfl w.heap.size (rowCells r).toArray rfl rfl 96 _ H1.out (by kernel_rfl) rfl (by simp [rowCells,Value.oneCell']) ?_))
      refine bodyPost_ret (results_single rfl (Vals.cell w.heap.size 96 (rowCells r).toArray (0,0) _ rfl (setRow_heap _ _ _ _ _ _ H1.out) Try.underlying96 rfl (by kernel_rfl) Vals.nil)) rfl ⟨rfl,below_setRow HB.out (Nat.le_refl _) _⟩
theorem ops_of.calls (a0:Int) (r1:ByteArray) (r2 r3 r4:Int) (r5 r6 r7 r8 r9:Bool) (w:World) (h:ops_of.f a0=some (r1,r2,r3,r4,r5,r6,r7,r8,r9)):
    Calls Try.prog 69 #[.int .i64 a0] w fun e w'=>e=.returned (.agg #[.string r1,.int .i64 r2,.int .i64 r3,.int .i64 r4,.bool r5,.bool r6,.bool r7,.bool r8,.bool r9])∧Below w.heap.size w w':=by
  have h0:=Option.some.inj h
  simp only [Prod.mk.injEq] at h0
  obtain ⟨rfl,rfl,rfl,rfl,rfl,rfl,rfl,rfl,rfl⟩:=h0
  exact of_calls a0 w
set_option maxHeartbeats 2000000
def nz (t:Int):List Int:=if t=0 then [] else [t]
theorem nz_zero:nz 0=[]:=rfl
theorem nz_some {t:Int} (h:t≠0):nz t=[t]:=if_neg h
def takesTo (i:Nat) (a b:Int):List Int:=if i=0 then [] else if i=1 then nz a else nz a++nz b
theorem takesTo0 (a b:Int):takesTo 0 a b=[]:=rfl
theorem takesTo1 (a b:Int):takesTo 1 a b=nz a:=rfl
theorem takesTo2 (a b:Int):takesTo 2 a b=nz a++nz b:=rfl
def ops_Takes.f (a0:Int):Option (List Int):=some (nz (opOf a0).t0++nz (opOf a0).t1)
theorem ops_Takes.calls (a0:Int) (r:List Int) (w:World) (h:ops_Takes.f a0=some r):
    Calls Try.prog 46 #[.int .i64 a0] w fun e w'=>∃ v0_:Value,e=.returned (v0_)∧Kd.R (Kd.int .i64) 3 w' w.heap.size (fun _=>True) v0_ r∧Below w.heap.size w w':=by
  obtain rfl:=Option.some.inj h
  clear h
  have hu85:=Try.underlying94
  have hof:=fun W=>of_calls a0 W
  have hfd:∀ (o:OpRow) (W:World),(Instr.field 96 (.agg (rowCells o).toArray) 1).run Try.prog W=.ok (.agg #[.int .i64 o.t0,.int .i64 o.t1]) W:=fun _ _=>by show _=_;kernel_rfl
  have hx0:∀ (a b:Int) (W:World),(Instr.index 94 (.agg #[.int .i64 a,.int .i64 b]) (.int .i64 ((0:Nat):Int))).run Try.prog W=.ok (.int .i64 a) W:=fun _ _ _=>by show _=_;kernel_rfl
  have hx1:∀ (a b:Int) (W:World),(Instr.index 94 (.agg #[.int .i64 a,.int .i64 b]) (.int .i64 ((1:Nat):Int))).run Try.prog W=.ok (.int .i64 b) W:=fun _ _ _=>by show _=_;kernel_rfl
  have hy0:∀ (a b:Int) (W:World),(Instr.index 94 (.agg #[.int .i64 a,.int .i64 b]) (.int .i64 0)).run Try.prog W=.ok (.int .i64 a) W:=fun _ _ _=>by show _=_;kernel_rfl
  have hy1:∀ (a b:Int) (W:World),(Instr.index 94 (.agg #[.int .i64 a,.int .i64 b]) (.int .i64 1)).run Try.prog W=.ok (.int .i64 b) W:=fun _ _ _=>by show _=_;kernel_rfl
  obtain ⟨o,ho⟩:∃ o,opOf a0=o:=⟨_,rfl⟩
  rw [ho] at hof ⊢
  clear ho
  go_enter Try.func46,Try.ntmps46
  go_wp2_with fail
  refine (hof _).mono ?_
  rintro e w0 ⟨rfl,hb⟩
  have HB0:=aM hb
  clear hb hof
  go_wp2
  go_loopg [3,9] 2 (fun kq v3 v9 w'=>∃ i:Nat,v9=.int .i64 i∧Aside0 (i≤2)∧Aside0 (Kd.R (Kd.int .i64) 3 w' w.heap.size (fun _=>True) v3 (takesTo i o.t0 o.t1))∧Aside0 (Below w.heap.size w w')∧Aside0 (kq=2 - i))
  case atStart=>exact ⟨0,rfl,⟨by omega⟩,⟨Kd.R_nil _ _ _ _ _⟩,HB0,⟨rfl⟩⟩
  case round=>
    obtain ⟨i,rfl,HI,HR,HB,HK⟩:=hrel
    have hi:=HI.out
    by_cases hi2:i<2
    · have hi3:i=0∨i=1:=by omega
      clear hi hi2
      rcases hi3 with rfl | rfl
      · rw [takesTo0] at HR
        by_cases hz:o.t0=0
        · have hzb:(o.t0 !=0)=false:=bne_eq_false_iff_eq.mpr hz
          go_wp2
          go_roundg 1
          case measure=>have:=HK.out;omega
          case rel=>
            refine ⟨1,rfl,⟨by omega⟩,?_,HB,⟨rfl⟩⟩
            rw [takesTo1,hz];exact HR
        · have hzb:(o.t0 !=0)=true:=bne_iff_ne.mpr hz
          obtain ⟨A0,q0,rfl⟩:=Kd.R_slice HR.out
          go_wp2_with (at_builtin;refine Kd.R_append (Kd.int .i64) (w0:=w) (W:=wr) w.heap.size rfl (.tmp 14) (.tmp 16) 31 3 (.int .i64 0) 8 rfl Try.underlying31 info3 rfl (by decide) (by omega) (.slice A0 ([]:List Int).length q0) ([]:List Int) o.t0 [.int .i64 o.t0] (fun _=>True) (fun _=>False) rfl rfl rfl (fun _ hk=>hk.elim) (fun _ _=>trivial) HR.out HB.out HB.out.size (by simp) ?_;intro v2 w2 ho2 hb2 hg2 hat2;have HO2:=aM ho2;have HB2:=aM hb2;clear ho2 hb2 hg2 hat2)
          go_roundg 1
          case measure=>have:=HK.out;omega
          case rel=>
            refine ⟨1,rfl,⟨by omega⟩,⟨?_⟩,HB2,⟨rfl⟩⟩
            rw [takesTo1,nz_some hz];exact HO2.out
      · rw [takesTo1] at HR
        by_cases hz:o.t1=0
        · have hzb:(o.t1 !=0)=false:=bne_eq_false_iff_eq.mpr hz
          go_wp2
          go_roundg 0
          case measure=>have:=HK.out;omega
          case rel=>
            refine ⟨2,rfl,⟨by omega⟩,?_,HB,⟨rfl⟩⟩
            rw [takesTo2,hz,nz_zero,List.append_nil];exact HR
        · have hzb:(o.t1 !=0)=true:=bne_iff_ne.mpr hz
          obtain ⟨A0,q0,rfl⟩:=Kd.R_slice HR.out
          go_wp2_with (at_builtin;refine Kd.R_append (Kd.int .i64) (w0:=w) (W:=wr) w.heap.size rfl (.tmp 14) (.tmp 16) 31 3 (.int .i64 0) 8 rfl Try.underlying31 info3 rfl (by decide) (by omega) (.slice A0 (nz o.t0).length q0) (nz o.t0) o.t1 [.int .i64 o.t1] (fun _=>True) (fun _=>False) rfl rfl rfl (fun _ hk=>hk.elim) (fun _ _=>trivial) HR.out HB.out HB.out.size (by unfold nz;split<;>simp) ?_;intro v2 w2 ho2 hb2 hg2 hat2;have HO2:=aM ho2;have HB2:=aM hb2;clear ho2 hb2 hg2 hat2)
          go_roundg 0
          case measure=>have:=HK.out;omega
          case rel=>
            refine ⟨2,rfl,⟨by omega⟩,⟨?_⟩,HB2,⟨rfl⟩⟩
            rw [takesTo2,nz_some hz];exact HO2.out
    · have hi3:i=2:=by omega
      subst hi3
      clear hi hi2
      rw [takesTo2] at HR
      go_wp2
      go_ret
      exact ⟨_,rfl,HR.out,HB.out⟩
end Go.Proofs.Ytkjdblbgmomieaa.PSh
end
