import Derived.Test.YtkjdblbgmomieaaMv5
import Derived.Test.YtkjdblbgmomieaaMv10
import Derived.Test.YtkjdblbgmomieaaMv8
import Derived.Test.YtkjdblbgmomieaaMv11
section
namespace Go.Proofs.Ytkjdblbgmomieaa.PSh
open Go.RowKit Go.Proofs.YtkjdblbgmomieaaW.PrintWords Go.Proofs.YtkjdblbgmomieaaW.PrintLast Go.Proofs.YtkjdblbgmomieaaW.PrintMore Go.Proofs.Ytkjdblbgmomieaa.Str
set_option linter.unusedVariables false
set_option linter.unusedSimpArgs false
def iObj (x:S39) (va vt:Value):Array Value:=#[.int .i64 x.f0,.int .i64 x.f1,.int .i64 x.f2,.int .i64 x.f3,va,vt,.string x.f6,.int .i64 x.f7]
structure TwoR (w':World) (base:Nat) (va vt:Value) (xa xt:List Int):Prop where
  ra:Kd.R (Kd.int .i64) 3 w' base (fun _=>True) va xa
  rt:Kd.R (Kd.int .i64) 3 w' base (fun _=>True) vt xt
  ap:∀ k,va.ownBlock=some k→vt.ownBlock≠some k
section
variable {w1 w2 : World} {base : Nat} {va vt v1 : Value} {xa xt ys : List Int}
theorem TwoR.nil (w':World) (base:Nat):TwoR w' base (.slice none 0 0) (.slice none 0 0) [] []:=⟨Kd.R_nil _ _ _ _ _,Kd.R_nil _ _ _ _ _,fun k h=>by simp [Value.ownBlock] at h⟩
theorem TwoR.below (h:TwoR w1 base va vt xa xt) (hb:Below w1.heap.size w1 w2):TwoR w2 base va vt xa xt:=⟨Kd.R_below h.ra hb,Kd.R_below h.rt hb,h.ap⟩
theorem TwoR.lower {b2:Nat} (h:TwoR w1 base va vt xa xt) (hb:b2≤base):TwoR w1 b2 va vt xa xt:=⟨Kd.R_lower h.ra hb,Kd.R_lower h.rt hb,h.ap⟩
theorem TwoR.keep (h:TwoR w1 base va vt xa xt) {g t:Nat} {cells:Array Value} (hG:w1.heap[g]?=some (.cells cells t (0,0))) (ht:3≠t) (hk:KeepBut w1 w2 g none):TwoR w2 base va vt xa xt:=
  ⟨Kd.R_mono (Kd.R_step (Kd.R_far1 h.ra rfl (Kd.R_ne h.ra hG ht)) (fun k ho hlt=>hk.2 k hlt ho.2 (by simp))) (fun _ _=>trivial),Kd.R_mono (Kd.R_step (Kd.R_far1 h.rt rfl (Kd.R_ne h.rt hG ht)) (fun k ho hlt=>hk.2 k hlt ho.2 (by simp))) (fun _ _=>trivial),h.ap⟩
theorem TwoR.set (h:TwoR w1 base va vt xa xt) {g t:Nat} {cells:Array Value} (hG:w1.heap[g]?=some (.cells cells t (0,0))) (ht:3≠t) (j:Nat) (u:Value):TwoR (w1.setCell ⟨g,j,none⟩ u) base va vt xa xt:=
  ⟨Kd.R_mono (Kd.R_far (p:=⟨g,j,none⟩) (Kd.R_far1 h.ra rfl (Kd.R_ne h.ra hG ht)) (fun _ hk=>hk.2) u) (fun _ _=>trivial),Kd.R_mono (Kd.R_far (p:=⟨g,j,none⟩) (Kd.R_far1 h.rt rfl (Kd.R_ne h.rt hG ht)) (fun _ hk=>hk.2) u) (fun _ _=>trivial),h.ap⟩
theorem TwoR.appA (h:TwoR w1 base va vt xa xt) (hr:Kd.R (Kd.int .i64) 3 w2 base (fun _=>True) v1 ys) (hg:w1.grownBy w2 va.ownBlock) (hv:v1.ownBlock=va.ownBlock∨∃ b,v1.ownBlock=some b∧w1.heap.size≤b):TwoR w2 base v1 vt ys xt:=by
  refine ⟨hr,Kd.R_grown2 h.rt rfl hg (fun k e e2=>h.ap k e e2.symm),fun k e e2=>?_⟩
  rcases hv with hv | ⟨b,hv,hb⟩
  · exact h.ap k (hv ▸ e) e2
  · have h1:=Kd.R_lt h.rt k e2
    rw [hv] at e
    injection e with e
    omega
theorem TwoR.appT (h:TwoR w1 base va vt xa xt) (hr:Kd.R (Kd.int .i64) 3 w2 base (fun _=>True) v1 ys) (hg:w1.grownBy w2 vt.ownBlock) (hv:v1.ownBlock=vt.ownBlock∨∃ b,v1.ownBlock=some b∧w1.heap.size≤b):TwoR w2 base va v1 xa ys:=by
  refine ⟨Kd.R_grown2 h.ra rfl hg (fun k e e2=>h.ap k e2.symm e),hr,fun k e e2=>?_⟩
  rcases hv with hv | ⟨b,hv,hb⟩
  · exact h.ap k e (hv ▸ e2)
  · have h1:=Kd.R_lt h.ra k e
    rw [hv] at e2
    injection e2 with e2
    omega
end
structure IXAt (g bz bx:Nat) (z:Array Value) (tl:List (S101)) (x:S39) (va vt:Value) (s1 s2 s3 s4 s5:Int) (w0 w w':World):Prop where
  i:IsS89 w0 w' g tl s1 s2 s3 s4 s5
  b:Below w0.heap.size w0 w'
  k:KeepBut w w' g none
  wb:w0.heap.size≤w.heap.size
  gl:g<w.heap.size
  ge:w.heap.size≤bz
  lt:bz<bx
  zero:w'.heap[bz]?=some (.cells z 39 (0,0))
  box:w'.heap[bx]?=some (.cells (iObj x va vt) 39 (0,0))
  two:TwoR w' w.heap.size va vt x.f4 x.f5
section
variable {g bz bx : Nat} {z : Array Value} {tl : List (S101)} {x : S39} {va vt v1 : Value} {ys : List Int} {s1 s2 s3 s4 s5 r1 r2 r3 r4 r5 : Int} {w0 w w1 w2 : World}
theorem IXAt.call (h:IXAt g bz bx z tl x va vt s1 s2 s3 s4 s5 w0 w w1) (hi:IsS89 w0 w2 g tl r1 r2 r3 r4 r5) (hb:Below w0.heap.size w0 w2) (hk:KeepBut w1 w2 g none):IXAt g bz bx z tl x va vt r1 r2 r3 r4 r5 w0 w w2:=by
  obtain ⟨A0,c0,hG,-,-⟩:=h.i
  have h1:=h.gl
  have h2:=h.ge
  have h3:=h.lt
  exact ⟨hi,hb,h.k.trans hk (.inl rfl),h.wb,h.gl,h.ge,h.lt,hk.blk h.zero (by omega) (by simp),hk.blk h.box (by omega) (by simp),h.two.keep hG (by decide) hk⟩
theorem IXAt.below (h:IXAt g bz bx z tl x va vt s1 s2 s3 s4 s5 w0 w w1) (hb:Below w1.heap.size w1 w2):IXAt g bz bx z tl x va vt s1 s2 s3 s4 s5 w0 w w2:=
  ⟨h.i.below hb,below_step h.b hb,h.k.trans (KeepBut.of_below hb g none) (.inl rfl),h.wb,h.gl,h.ge,h.lt,blk_below h.zero hb,blk_below h.box hb,h.two.below hb⟩
theorem IXAt.put (h:IXAt g bz bx z tl x va vt s1 s2 s3 s4 s5 w0 w w1) (x2:S39) (j:Nat) (u:Value) (hc:(iObj x va vt).setIfInBounds j u=iObj x2 va vt) (h4:x2.f4=x.f4) (h5:x2.f5=x.f5):IXAt g bz bx z tl x2 va vt s1 s2 s3 s4 s5 w0 w (w1.setCell ⟨bx,j,none⟩ u):=by
  have h1:=h.gl
  have h2:=h.ge
  have h3:=h.lt
  have h6:=h.wb
  exact ⟨h.i.far (by show g≠bx;omega) u,below_set h.b (by show _≤bx;omega),keep_far h.k (by show _≤bx;omega) u,h.wb,h.gl,h.ge,h.lt,(Below.heap_setCell w1 ⟨bx,j,none⟩ u _ (by show bz≠bx;omega)).trans h.zero,blk_put h.box j u hc,by rw [h4,h5];exact h.two.set h.box (by decide) j u⟩
theorem IXAt.setz (h:IXAt g bz bx z tl x va vt s1 s2 s3 s4 s5 w0 w w1) (j:Nat) (u:Value):IXAt g bz bx (z.setIfInBounds j u) tl x va vt s1 s2 s3 s4 s5 w0 w (w1.setCell ⟨bz,j,none⟩ u):=by
  have h1:=h.gl
  have h2:=h.ge
  have h3:=h.lt
  have h6:=h.wb
  exact ⟨h.i.far (by show g≠bz;omega) u,below_set h.b (by show _≤bz;omega),keep_far h.k (by show _≤bz;omega) u,h.wb,h.gl,h.ge,h.lt,blk_put h.zero j u rfl,(Below.heap_setCell w1 ⟨bz,j,none⟩ u _ (by show bx≠bz;omega)).trans h.box,h.two.set h.zero (by decide) j u⟩
theorem IXAt.app (h:IXAt g bz bx z tl x va vt s1 s2 s3 s4 s5 w0 w w1) {row:Option Nat} (hg:w1.grownBy w2 row) (hrow:row=va.ownBlock∨row=vt.ownBlock) (x2:S39) (j:Nat) {va2 vt2:Value} (u:Value) (hc:(iObj x va vt).setIfInBounds j u=iObj x2 va2 vt2) (h2r:TwoR w2 w.heap.size va2 vt2 x2.f4 x2.f5):IXAt g bz bx z tl x2 va2 vt2 s1 s2 s3 s4 s5 w0 w (w2.setCell ⟨bx,j,none⟩ u):=by
  have h1:=h.gl
  have h2:=h.ge
  have h3:=h.lt
  have h6:=h.wb
  obtain ⟨A0,c0,hG,-,-⟩:=h.i
  have ne:∀ {g' t:Nat} {cells:Array Value},w1.heap[g']?=some (.cells cells t (0,0))→3≠t→some g'≠row:=fun hG ht=>by
    rcases hrow with e | e
    · rw [e]
      exact Kd.R_ne h.two.ra hG ht
    · rw [e]
      exact Kd.R_ne h.two.rt hG ht
  have bs:∀ k,row=some k→w.heap.size≤k:=fun k e=>by
    rcases hrow with e2 | e2
    · exact Kd.R_base h.two.ra k (e2 ▸ e)
    · exact Kd.R_base h.two.rt k (e2 ▸ e)
  have hz:=(hg.block bz (blk_lt h.zero) (ne h.zero (by decide))).trans h.zero
  have hx:=(hg.block bx (blk_lt h.box) (ne h.box (by decide))).trans h.box
  have hb:Below w0.heap.size w0 w2:=pw_below_grown h.b row (Nat.le_trans h.wb (keep_size h.k)) hg (fun k e=>Nat.le_trans h.wb (bs k e))
  have hkk:KeepBut w w2 g none:=h.k.trans (KeepBut.of_grown hg g) (by
    cases hr:row with
    | none=>exact .inl rfl
    | some k=>exact .inr ⟨k,rfl,bs k hr⟩)
  exact ⟨(h.i.grown hg (ne hG (by decide))).far (by show g≠bx;omega) _,below_set hb (by show _≤bx;omega),keep_far hkk (by show _≤bx;omega) _,h.wb,h.gl,h.ge,h.lt,(Below.heap_setCell w2 ⟨bx,j,none⟩ u _ (by show bz≠bx;omega)).trans hz,blk_put hx j u hc,h2r.set hx (by decide) j u⟩
theorem IXAt.fin (h:IXAt g bz bx #[.int .i64 0,.int .i64 0,.int .i64 0,.int .i64 0,.slice none 0 0,.slice none 0 0,.string ⟨#[]⟩,.int .i64 0] tl x va vt s1 s2 s3 s4 s5 w0 w w1) {a t:Value} {xs zs:List Int} (ht:TwoR w1 w.heap.size a t xs zs) (c0 c1 c2 c3 c4 c5 c6 c7:Value):
    ((((((((((w1.setCell ⟨bz,0,none⟩ c0).setCell ⟨bz,1,none⟩ c1).setCell ⟨bz,2,none⟩ c2).setCell ⟨bz,3,none⟩ c3).setCell ⟨bz,4,none⟩ c4).setCell ⟨bz,5,none⟩ c5).setCell ⟨bz,6,none⟩ c6).setCell ⟨bz,7,none⟩ c7)).heap[bz]?=some (.cells #[c0,c1,c2,c3,c4,c5,c6,c7] 39 (0,0)))∧
    TwoR ((((((((w1.setCell ⟨bz,0,none⟩ c0).setCell ⟨bz,1,none⟩ c1).setCell ⟨bz,2,none⟩ c2).setCell ⟨bz,3,none⟩ c3).setCell ⟨bz,4,none⟩ c4).setCell ⟨bz,5,none⟩ c5).setCell ⟨bz,6,none⟩ c6).setCell ⟨bz,7,none⟩ c7) w.heap.size a t xs zs∧
    IsS89 w0 ((((((((w1.setCell ⟨bz,0,none⟩ c0).setCell ⟨bz,1,none⟩ c1).setCell ⟨bz,2,none⟩ c2).setCell ⟨bz,3,none⟩ c3).setCell ⟨bz,4,none⟩ c4).setCell ⟨bz,5,none⟩ c5).setCell ⟨bz,6,none⟩ c6).setCell ⟨bz,7,none⟩ c7) g tl s1 s2 s3 s4 s5∧
    Below w0.heap.size w0 ((((((((w1.setCell ⟨bz,0,none⟩ c0).setCell ⟨bz,1,none⟩ c1).setCell ⟨bz,2,none⟩ c2).setCell ⟨bz,3,none⟩ c3).setCell ⟨bz,4,none⟩ c4).setCell ⟨bz,5,none⟩ c5).setCell ⟨bz,6,none⟩ c6).setCell ⟨bz,7,none⟩ c7)∧
    KeepBut w ((((((((w1.setCell ⟨bz,0,none⟩ c0).setCell ⟨bz,1,none⟩ c1).setCell ⟨bz,2,none⟩ c2).setCell ⟨bz,3,none⟩ c3).setCell ⟨bz,4,none⟩ c4).setCell ⟨bz,5,none⟩ c5).setCell ⟨bz,6,none⟩ c6).setCell ⟨bz,7,none⟩ c7) g none:=by
  have h0:=h.setz 0 c0
  have t0:=ht.set h.zero (by decide) 0 c0
  have h1:=h0.setz 1 c1
  have t1:=t0.set h0.zero (by decide) 1 c1
  have h2:=h1.setz 2 c2
  have t2:=t1.set h1.zero (by decide) 2 c2
  have h3:=h2.setz 3 c3
  have t3:=t2.set h2.zero (by decide) 3 c3
  have h4:=h3.setz 4 c4
  have t4:=t3.set h3.zero (by decide) 4 c4
  have h5:=h4.setz 5 c5
  have t5:=t4.set h4.zero (by decide) 5 c5
  have h6:=h5.setz 6 c6
  have t6:=t5.set h5.zero (by decide) 6 c6
  have h7:=h6.setz 7 c7
  have t7:=t6.set h6.zero (by decide) 7 c7
  refine ⟨h7.zero.trans ?_,t7,h7.i,h7.b,h7.k⟩
  simp only [qA,qB,qC]
theorem IXAt.at1 (h:IXAt g bz bx z tl x va vt s1 s2 s3 s4 s5 w0 w w1) (j:Nat):w1.cell? ⟨bx,j,none⟩=(iObj x va vt)[j]?:=blk_cell h.box j
theorem IXAt.code (h:IXAt g bz bx z tl x va vt s1 s2 s3 s4 s5 w0 w w1):w1.cell? ⟨g,4,none⟩=some (.int .i64 s4):=by
  obtain ⟨A0,c0,hG,-,-⟩:=h.i
  exact blk_cell hG 4
theorem IXAt.sl (h:IXAt g bz bx z tl x va vt s1 s2 s3 s4 s5 w0 w w1):∃ Aa ca At ct,va=.slice Aa x.f4.length ca∧vt=.slice At x.f5.length ct:=by
  obtain ⟨Aa,ca,ea⟩:=Kd.R_slice h.two.ra
  obtain ⟨At,ct,et⟩:=Kd.R_slice h.two.rt
  exact ⟨Aa,ca,At,ct,ea,et⟩
end
end Go.Proofs.Ytkjdblbgmomieaa.PSh
end
section
namespace Go.Proofs.Ytkjdblbgmomieaa.PSh
set_option maxHeartbeats 8000000
set_option maxRecDepth 100000
open Go.RowKit Go.Proofs.YtkjdblbgmomieaaW.PrintWords Go.Proofs.YtkjdblbgmomieaaW.PrintLast Go.Proofs.YtkjdblbgmomieaaW.PrintMore Go.Proofs.Ytkjdblbgmomieaa.Str
set_option linter.unusedVariables false
set_option linter.unusedSimpArgs false
def rphLoop:Nat→List (S101)→List Int→List Int→Int→Int→Int→Int→Int→Option (List Int × List Int × Int × Int × Int × Int × Int)
  | 0,_,_,_,_,_,_,_,_=>none
  | k+1,tl,xa,xt,s1,s2,s3,s4,s5=>(if s4=0 then (if xt.length=0 then some (true,s1,s2,s3,s4,s5) else r06_Reader_pair.f tl s1 s2 s3 s4 s5) else some (false,s1,s2,s3,s4,s5)).bind fun c=>if c.1=true then (r06_Reader_label.f k tl c.2.1 c.2.2.1 c.2.2.2.1 c.2.2.2.2.1 c.2.2.2.2.2).bind fun b=>(r06_Reader_value.f k tl b.2.1 b.2.2.1 b.2.2.2.1 b.2.2.2.2.1 b.2.2.2.2.2).bind fun v=>
        if xt.length<1000000000000∧xa.length<1000000000000 then rphLoop k tl (xa++[v.1]) (xt++[b.1]) v.2.1 v.2.2.1 v.2.2.2.1 v.2.2.2.2.1 v.2.2.2.2.2 else none
      else some (xa,xt,c.2.1,c.2.2.1,c.2.2.2.1,c.2.2.2.2.1,c.2.2.2.2.2)
def r06_Reader_phi.f (k:Nat) (tl:List (S101)) (s1 s2 s3 s4 s5:Int):Option (List Int × List Int × Int × Int × Int × Int × Int):=rphLoop k tl [] [] s1 s2 s3 s4 s5
theorem r06_Reader_phi.calls (k g:Nat) (tl:List (S101)) (s1 s2 s3 s4 s5:Int) (op id n ty:Int) (nm:ByteArray) (at_:Int) (ras rts:List Int) (r1 r2 r3 r4 r5:Int) (w0 w:World) (hI:IsS89 w0 w g tl s1 s2 s3 s4 s5) (hB:Below w0.heap.size w0 w) (h:r06_Reader_phi.f k tl s1 s2 s3 s4 s5=some (ras,rts,r1,r2,r3,r4,r5)):
    Calls Try.prog 111 #[.pointer (some ⟨g,0,none⟩),.agg #[.int .i64 op,.int .i64 id,.int .i64 n,.int .i64 ty,.slice none 0 0,.slice none 0 0,.string nm,.int .i64 at_]] w fun e w'=>∃ va vt:Value,e=.returned (.agg #[.int .i64 op,.int .i64 id,.int .i64 n,.int .i64 ty,va,vt,.string nm,.int .i64 at_])∧TwoR w' w.heap.size va vt ras rts∧IsS89 w0 w' g tl r1 r2 r3 r4 r5∧Below w0.heap.size w0 w'∧KeepBut w w' g none:=by
  have hu39:=Try.underlying39
  have HF:=aM h
  clear h
  have HI:=aM hI
  have HB:=aM hB
  have HL:=aM hI.lt
  clear hI hB
  go_enter Try.func111,Try.ntmps111
  have hy:=blk_alloc (blk_new w (.cells #[.int .i64 op,.int .i64 id,.int .i64 n,.int .i64 ty,.slice none 0 0,.slice none 0 0,.string nm,.int .i64 at_] 39)) (.cells #[.int .i64 0,.int .i64 0,.int .i64 0,.int .i64 0,.slice none 0 0,.slice none 0 0,.string ⟨#[]⟩,.int .i64 0] 39)
  have hz:=blk_new (w.alloc (.cells #[.int .i64 op,.int .i64 id,.int .i64 n,.int .i64 ty,.slice none 0 0,.slice none 0 0,.string nm,.int .i64 at_] 39)) (.cells #[.int .i64 0,.int .i64 0,.int .i64 0,.int .i64 0,.slice none 0 0,.slice none 0 0,.string ⟨#[]⟩,.int .i64 0] 39)
  have hs:(w.alloc (.cells #[.int .i64 op,.int .i64 id,.int .i64 n,.int .i64 ty,.slice none 0 0,.slice none 0 0,.string nm,.int .i64 at_] 39)).heap.size=w.heap.size+1:=by simp
  rw [hs] at hz
  have hi0:=(HI.out.alloc (.cells #[.int .i64 op,.int .i64 id,.int .i64 n,.int .i64 ty,.slice none 0 0,.slice none 0 0,.string nm,.int .i64 at_] 39)).alloc (.cells #[.int .i64 0,.int .i64 0,.int .i64 0,.int .i64 0,.slice none 0 0,.slice none 0 0,.string ⟨#[]⟩,.int .i64 0] 39)
  have hb0:=below_alloc (below_alloc HB.out (.cells #[.int .i64 op,.int .i64 id,.int .i64 n,.int .i64 ty,.slice none 0 0,.slice none 0 0,.string nm,.int .i64 at_] 39)) (.cells #[.int .i64 0,.int .i64 0,.int .i64 0,.int .i64 0,.slice none 0 0,.slice none 0 0,.string ⟨#[]⟩,.int .i64 0] 39)
  have hk0:=keep_alloc (keep_alloc (g:=g) (KeepBut.refl w g none) (.cells #[.int .i64 op,.int .i64 id,.int .i64 n,.int .i64 ty,.slice none 0 0,.slice none 0 0,.string nm,.int .i64 at_] 39)) (.cells #[.int .i64 0,.int .i64 0,.int .i64 0,.int .i64 0,.slice none 0 0,.slice none 0 0,.string ⟨#[]⟩,.int .i64 0] 39)
  clear hs
  go_upto_region 1 with (fail)
  generalize (w.alloc (.cells #[.int .i64 op,.int .i64 id,.int .i64 n,.int .i64 ty,.slice none 0 0,.slice none 0 0,.string nm,.int .i64 at_] 39)).alloc (.cells #[.int .i64 0,.int .i64 0,.int .i64 0,.int .i64 0,.slice none 0 0,.slice none 0 0,.string ⟨#[]⟩,.int .i64 0] 39)=W0 at hy hz hi0 hb0 hk0 ⊢
  have HX:=aM (show IXAt g (w.heap.size+1) W0.heap.size #[.int .i64 0,.int .i64 0,.int .i64 0,.int .i64 0,.slice none 0 0,.slice none 0 0,.string ⟨#[]⟩,.int .i64 0] tl ⟨op,id,n,ty,[],[],nm,at_⟩ (.slice none 0 0) (.slice none 0 0) s1 s2 s3 s4 s5 w0 w (W0.alloc (.cells #[.int .i64 op,.int .i64 id,.int .i64 n,.int .i64 ty,.slice none 0 0,.slice none 0 0,.string nm,.int .i64 at_] 39)) from
    ⟨hi0.alloc _,below_alloc hb0 _,keep_alloc hk0 _,HB.out.size,HL.out,Nat.le_succ _,blk_lt hz,blk_alloc hz _,blk_new _ _,TwoR.nil _ _⟩)
  have y_0:=blk_cell hy 0
  have y_1:=blk_cell hy 1
  have y_2:=blk_cell hy 2
  have y_3:=blk_cell hy 3
  have y_4:=blk_cell hy 4
  have y_5:=blk_cell hy 5
  have y_6:=blk_cell hy 6
  have y_7:=blk_cell hy 7
  clear hy hz hi0 hb0 hk0
  generalize hbx:W0.heap.size=bx_ at HX
  go_wp2
  (try simp only [Act.put,qA,qB,qC])
  generalize W0.alloc (.cells #[.int .i64 op,.int .i64 id,.int .i64 n,.int .i64 ty,.slice none 0 0,.slice none 0 0,.string nm,.int .i64 at_] 39)=W1 at HX ⊢
  clear y_0 y_1 y_2 y_3 y_4 y_5 y_6 y_7
  go_loopg [] k (fun kq w'=>∃ (xa xt:List Int) (va vt:Value) (t1 t2 t3 t4 t5:Int),Aside0 (rphLoop kq tl xa xt t1 t2 t3 t4 t5=some (ras,rts,r1,r2,r3,r4,r5))∧Aside0 (kq≤k)∧Aside0 (IXAt g (w.heap.size+1) bx_ #[.int .i64 0,.int .i64 0,.int .i64 0,.int .i64 0,.slice none 0 0,.slice none 0 0,.string ⟨#[]⟩,.int .i64 0] tl ⟨op,id,n,ty,xa,xt,nm,at_⟩ va vt t1 t2 t3 t4 t5 w0 w w'))
  case atStart=>exact ⟨_,_,_,_,_,_,_,_,_,⟨HF.out⟩,⟨Nat.le_refl _⟩,⟨HX.out⟩⟩
  case round=>
    clear HX
    obtain ⟨xa,xt,va,vt,t1,t2,t3,t4,t5,HLO,HKQ,HX⟩:=hrel
    obtain ⟨Aa,ca,At,ct,ea,et⟩:=HX.out.sl
    subst ea
    subst et
    cases gk with
    | zero=>exact absurd HLO.out (by simp [rphLoop])
    | succ k1=>
      have hl:=HLO.out
      simp only [rphLoop] at hl
      replace hl:=Option.bind_eq_some_iff.mp hl
      obtain ⟨⟨c,u1,u2,u3,u4,u5⟩,hc,hl⟩:=hl
      have HC:=aM hc
      have HN:=aM hl
      clear hc hl HLO
      go_upto_region 2 with (fail)
      go_cut [24] (fun v24 wc=>v24=.bool c∧Aside0 (IXAt g (w.heap.size+1) bx_ #[.int .i64 0,.int .i64 0,.int .i64 0,.int .i64 0,.slice none 0 0,.slice none 0 0,.string ⟨#[]⟩,.int .i64 0] tl ⟨op,id,n,ty,xa,xt,nm,at_⟩ (.slice Aa xa.length ca) (.slice At xt.length ct) u1 u2 u3 u4 u5 w0 w wc))
      case first=>
        have hc:=HC.out
        have hc4:=HX.out.code
        have y5:=HX.out.at1 5
        simp only [iObj] at y5
        by_cases c4:t4=0
        · rw [if_pos c4] at hc
          have c4b:(t4==0)=true:=beq_iff_eq.mpr c4
          clear c4
          by_cases hz:xt.length=0
          · rw [if_pos hz] at hc
            simp only [Option.some.injEq,Prod.mk.injEq] at hc
            obtain ⟨rfl,rfl,rfl,rfl,rfl,rfl⟩:=hc
            have z1:((xt.length:Int)==0)=true:=beq_iff_eq.mpr (by omega)
            have z2:decide ((xt.length:Int)=0)=true:=decide_eq_true (by omega)
            clear hz
            go_wp2_with fail
            go_meet
            exact ⟨rfl,HX⟩
          · rw [if_neg hz] at hc
            have z1:((xt.length:Int)==0)=false:=beq_eq_false_iff_ne.mpr (by omega)
            have z2:decide ((xt.length:Int)=0)=false:=decide_eq_false (by omega)
            have HP:=aM hc
            clear hz hc
            go_wp2_with fail
            refine (r06_Reader_pair.calls g tl _ _ _ _ _ c u1 u2 u3 u4 u5 w0 _ HX.out.i HX.out.b HP.out).mono ?_
            rintro e w2 ⟨rfl,hi_,hb_,hk_⟩
            have HX2:=aM (HX.out.call hi_ hb_ hk_)
            clear hi_ hb_ hk_ y5 hc4
            go_wp2_with fail
            go_meet
            exact ⟨rfl,HX2⟩
        · rw [if_neg c4] at hc
          have c4b:(t4==0)=false:=beq_eq_false_iff_ne.mpr c4
          clear c4
          simp only [Option.some.injEq,Prod.mk.injEq] at hc
          obtain ⟨rfl,rfl,rfl,rfl,rfl,rfl⟩:=hc
          go_wp2_with fail
          go_meet
          exact ⟨rfl,HX⟩
      case rest=>
        clear HX HC
        obtain ⟨rfl,HX⟩:=hcut
        have hl:=HN.out
        clear HN
        cases c with
        | true=>
          rw [if_pos rfl] at hl
          replace hl:=Option.bind_eq_some_iff.mp hl
          obtain ⟨⟨b0,b1,b2,b3,b4,b5⟩,hb,hl⟩:=hl
          replace hl:=Option.bind_eq_some_iff.mp hl
          obtain ⟨⟨v0,v1,v2,v3,v4,v5⟩,hv,hl⟩:=hl
          by_cases hlen:xt.length<1000000000000∧xa.length<1000000000000
          rotate_left
          · rw [if_neg hlen] at hl
            cases hl
          rw [if_pos hlen] at hl
          have HBB:=aM hb
          have HV:=aM hv
          have HLEN:=aM hlen
          have HNX:=aM hl
          clear hb hv hlen hl
          go_wp2_with fail
          refine (r06_Reader_label.calls k1 g tl _ _ _ _ _ _ _ _ _ _ _ w0 _ HX.out.i HX.out.b HBB.out).mono ?_
          rintro e w3 ⟨rfl,hi_,hb_,hk_⟩
          have HX3:=aM (HX.out.call hi_ hb_ hk_)
          clear hi_ hb_ hk_
          go_wp2_with fail
          refine (r06_Reader_value.calls k1 g tl _ _ _ _ _ _ _ _ _ _ _ w0 _ HX3.out.i HX3.out.b HV.out).mono ?_
          rintro e w4 ⟨rfl,hi_,hb_,hk_⟩
          have HX4:=aM (HX3.out.call hi_ hb_ hk_)
          clear hi_ hb_ hk_
          have y5:=HX4.out.at1 5
          simp only [iObj] at y5
          go_upto_region 6 with (first | ((with_reducible refine gate_builtin (b:=.append) (xs:=#[.tmp 30,.tmp 32]) rfl ?_);at_builtin;refine Kd.R_append (Kd.int .i64) w.heap.size rfl (.tmp 30) (.tmp 32) 31 3 (.int .i64 0) 8 rfl Try.underlying31 (by kernel_rfl) rfl (by decide) (by omega) (.slice At xt.length ct) xt b0 [.int .i64 b0] (fun _=>True) (fun k=>True∧some k≠(Value.slice At xt.length ct).ownBlock) rfl rfl rfl (fun k hk=>⟨trivial,hk.2⟩) (fun k hk=>trivial) HX4.out.two.rt (Below.refl _ _) (keep_size HX4.out.k) (by have:=HLEN.out;omega) ?_;intro v1 w4_ hr4 hb4 hg4 hv4;obtain ⟨A6,c6,e6⟩:=Kd.R_slice hr4;rw [List.length_append,List.length_singleton] at e6;subst e6;have HX5:=aM (HX4.out.app hg4 (.inr rfl) ⟨op,id,n,ty,xa,xt++[b0],nm,at_⟩ 5 _ rfl (HX4.out.two.appT hr4 hg4 hv4));have B4:=(hg4.block bx_ (blk_lt HX4.out.box) (Kd.R_ne HX4.out.two.rt HX4.out.box (by decide))).trans HX4.out.box;have c4_:=blk_cell B4 5;have f4_:=blk_frozen B4 5;clear hr4 hb4 hg4 hv4 B4))
          clear y5 HX4
          generalize w4_.setCell ⟨bx_,5,none⟩ (.slice A6 (xt.length+1) c6)=w5 at HX5 ⊢
          have y4:=HX5.out.at1 4
          simp only [iObj] at y4
          go_wp2_with (first | ((with_reducible refine gate_builtin (b:=.append) (xs:=#[.tmp 36,.tmp 38]) rfl ?_);at_builtin;refine Kd.R_append (Kd.int .i64) w.heap.size rfl (.tmp 36) (.tmp 38) 31 3 (.int .i64 0) 8 rfl Try.underlying31 (by kernel_rfl) rfl (by decide) (by omega) (.slice Aa xa.length ca) xa v0 [.int .i64 v0] (fun _=>True) (fun k=>True∧some k≠(Value.slice Aa xa.length ca).ownBlock) rfl rfl rfl (fun k hk=>⟨trivial,hk.2⟩) (fun k hk=>trivial) HX5.out.two.ra (Below.refl _ _) (keep_size HX5.out.k) (by have:=HLEN.out;omega) ?_;intro v1 w6_ hr4 hb4 hg4 hv4;obtain ⟨A7,c7,e6⟩:=Kd.R_slice hr4;rw [List.length_append,List.length_singleton] at e6;subst e6;have HX6:=aM (HX5.out.app hg4 (.inl rfl) ⟨op,id,n,ty,xa++[v0],xt++[b0],nm,at_⟩ 4 _ rfl (HX5.out.two.appA hr4 hg4 hv4));have B4:=(hg4.block bx_ (blk_lt HX5.out.box) (Kd.R_ne HX5.out.two.ra HX5.out.box (by decide))).trans HX5.out.box;have c4_:=blk_cell B4 4;have f4_:=blk_frozen B4 4;clear hr4 hb4 hg4 hv4 B4))
          go_roundg k1
          case measure=>have:=HKQ.out;omega
          case rel=>exact ⟨_,_,_,_,_,_,_,_,_,⟨HNX.out⟩,⟨by have:=HKQ.out;omega⟩,⟨HX6.out⟩⟩
        | false=>
          rw [if_neg (by simp)] at hl
          simp only [Option.some.injEq,Prod.mk.injEq] at hl
          obtain ⟨rfl,rfl,rfl,rfl,rfl,rfl,rfl⟩:=hl
          have c_0:=HX.out.at1 0
          have f_0:=blk_frozen HX.out.box 0
          have d_0:=blk_cell HX.out.zero 0
          have e_0:=blk_frozen HX.out.zero 0
          have c_1:=HX.out.at1 1
          have f_1:=blk_frozen HX.out.box 1
          have d_1:=blk_cell HX.out.zero 1
          have e_1:=blk_frozen HX.out.zero 1
          have c_2:=HX.out.at1 2
          have f_2:=blk_frozen HX.out.box 2
          have d_2:=blk_cell HX.out.zero 2
          have e_2:=blk_frozen HX.out.zero 2
          have c_3:=HX.out.at1 3
          have f_3:=blk_frozen HX.out.box 3
          have d_3:=blk_cell HX.out.zero 3
          have e_3:=blk_frozen HX.out.zero 3
          have c_4:=HX.out.at1 4
          have f_4:=blk_frozen HX.out.box 4
          have d_4:=blk_cell HX.out.zero 4
          have e_4:=blk_frozen HX.out.zero 4
          have c_5:=HX.out.at1 5
          have f_5:=blk_frozen HX.out.box 5
          have d_5:=blk_cell HX.out.zero 5
          have e_5:=blk_frozen HX.out.zero 5
          have c_6:=HX.out.at1 6
          have f_6:=blk_frozen HX.out.box 6
          have d_6:=blk_cell HX.out.zero 6
          have e_6:=blk_frozen HX.out.zero 6
          have c_7:=HX.out.at1 7
          have f_7:=blk_frozen HX.out.box 7
          have d_7:=blk_cell HX.out.zero 7
          have e_7:=blk_frozen HX.out.zero 7
          have HE:=aM ((((((((HX.out.setz 0 (.int .i64 (⟨op,id,n,ty,xa,xt,nm,at_⟩:S39).f0)).setz 1 (.int .i64 (⟨op,id,n,ty,xa,xt,nm,at_⟩:S39).f1)).setz 2 (.int .i64 (⟨op,id,n,ty,xa,xt,nm,at_⟩:S39).f2)).setz 3 (.int .i64 (⟨op,id,n,ty,xa,xt,nm,at_⟩:S39).f3)).setz 4 (.slice Aa xa.length ca)).setz 5 (.slice At xt.length ct)).setz 6 (.string (⟨op,id,n,ty,xa,xt,nm,at_⟩:S39).f6)).setz 7 (.int .i64 (⟨op,id,n,ty,xa,xt,nm,at_⟩:S39).f7))
          have hne:w.heap.size+1≠bx_:=by have:=HX.out.lt;omega
          have hne':bx_≠w.heap.size+1:=by have:=HX.out.lt;omega
          simp only [iObj] at c_0 c_1 c_2 c_3 c_4 c_5 c_6 c_7
          clear HX
          go_wp2
          refine bodyPost_ret (results_cell_row rfl _ _ (w.heap.size+1) 39 #[.int .i64 (⟨op,id,n,ty,xa,xt,nm,at_⟩:S39).f0,.int .i64 (⟨op,id,n,ty,xa,xt,nm,at_⟩:S39).f1,.int .i64 (⟨op,id,n,ty,xa,xt,nm,at_⟩:S39).f2,.int .i64 (⟨op,id,n,ty,xa,xt,nm,at_⟩:S39).f3,.slice Aa xa.length ca,.slice At xt.length ct,.string (⟨op,id,n,ty,xa,xt,nm,at_⟩:S39).f6,.int .i64 (⟨op,id,n,ty,xa,xt,nm,at_⟩:S39).f7] (0,0) _ rfl HE.out.zero Try.underlying39 rfl (by kernel_rfl)) rfl ?_
          exact ⟨_,_,rfl,HE.out.two,HE.out.i,HE.out.b,HE.out.k⟩
def rcaLoop:Nat→List (S101)→List Int→Int→Int→Int→Int→Int→Option (List Int × Int × Int × Int × Int × Int)
  | 0,_,_,_,_,_,_,_=>none
  | k+1,tl,xa,s1,s2,s3,s4,s5=>(r06_Reader_taken.f tl s1 s2 s3 s4 s5).bind fun c=>if c.1=true then (r06_Reader_value.f k tl c.2.1 c.2.2.1 c.2.2.2.1 c.2.2.2.2.1 c.2.2.2.2.2).bind fun v=>
        if xa.length<1000000000000 then rcaLoop k tl (xa++[v.1]) v.2.1 v.2.2.1 v.2.2.2.1 v.2.2.2.2.1 v.2.2.2.2.2 else none
      else some (xa,c.2.1,c.2.2.1,c.2.2.2.1,c.2.2.2.2.1,c.2.2.2.2.2)
def r06_Reader_call.f (k:Nat) (tl:List (S101)) (s1 s2 s3 s4 s5:Int) (n:Int):Option (Int × ByteArray × List Int × Int × Int × Int × Int × Int):=
  (r06_Reader_peek.f tl s1 s2 s3 s4 s5 0).bind fun p=>(if p.1.toList=([]:List UInt8) then some (n,p.2.1,p.2.2.1,p.2.2.2.1,p.2.2.2.2.1,p.2.2.2.2.2) else if 0<(p.1.size:Int) then (if bt p.1 0=64 then r06_Reader_index.f k tl p.2.1 p.2.2.1 p.2.2.2.1 p.2.2.2.2.1 p.2.2.2.2.2 64 1048576 3 else some (n,p.2.1,p.2.2.1,p.2.2.2.1,p.2.2.2.2.1,p.2.2.2.2.2)) else none).bind fun x=>
    (r06_Reader_name.f k tl x.2.1 x.2.2.1 x.2.2.2.1 x.2.2.2.2.1 x.2.2.2.2.2).bind fun m=>(rcaLoop k tl [] m.2.1 m.2.2.1 m.2.2.2.1 m.2.2.2.2.1 m.2.2.2.2.2).bind fun r=>some (x.1,m.1,r.1,r.2.1,r.2.2.1,r.2.2.2.1,r.2.2.2.2.1,r.2.2.2.2.2)
theorem r06_Reader_call.calls (k g:Nat) (tl:List (S101)) (s1 s2 s3 s4 s5:Int) (op id n ty:Int) (nm:ByteArray) (at_:Int) (rn:Int) (rnm:ByteArray) (ras:List Int) (r1 r2 r3 r4 r5:Int) (w0 w:World) (hI:IsS89 w0 w g tl s1 s2 s3 s4 s5) (hB:Below w0.heap.size w0 w) (h:r06_Reader_call.f k tl s1 s2 s3 s4 s5 n=some (rn,rnm,ras,r1,r2,r3,r4,r5)):
    Calls Try.prog 112 #[.pointer (some ⟨g,0,none⟩),.agg #[.int .i64 op,.int .i64 id,.int .i64 n,.int .i64 ty,.slice none 0 0,.slice none 0 0,.string nm,.int .i64 at_]] w fun e w'=>∃ va:Value,e=.returned (.agg #[.int .i64 op,.int .i64 id,.int .i64 rn,.int .i64 ty,va,.slice none 0 0,.string rnm,.int .i64 at_])∧TwoR w' w.heap.size va (.slice none 0 0) ras []∧IsS89 w0 w' g tl r1 r2 r3 r4 r5∧Below w0.heap.size w0 w'∧KeepBut w w' g none:=by
  have hu39:=Try.underlying39
  unfold r06_Reader_call.f at h
  replace h:=Option.bind_eq_some_iff.mp h
  obtain ⟨⟨p0,p1,p2,p3,p4,p5⟩,hp,h⟩:=h
  replace h:=Option.bind_eq_some_iff.mp h
  obtain ⟨⟨x0,x1,x2,x3,x4,x5⟩,hx,h⟩:=h
  replace h:=Option.bind_eq_some_iff.mp h
  obtain ⟨⟨m0,m1,m2,m3,m4,m5⟩,hm,h⟩:=h
  replace h:=Option.bind_eq_some_iff.mp h
  obtain ⟨⟨l0,l1,l2,l3,l4,l5⟩,hl,h⟩:=h
  simp only [Option.some.injEq,Prod.mk.injEq] at h
  obtain ⟨rfl,rfl,rfl,rfl,rfl,rfl,rfl,rfl⟩:=h
  have HP:=aM hp
  have HXX:=aM hx
  have HM:=aM hm
  have HLP:=aM hl
  clear hp hx hm hl
  have HI:=aM hI
  have HB:=aM hB
  have HL:=aM hI.lt
  clear hI hB
  go_enter Try.func112,Try.ntmps112
  have hy:=blk_alloc (blk_new w (.cells #[.int .i64 op,.int .i64 id,.int .i64 n,.int .i64 ty,.slice none 0 0,.slice none 0 0,.string nm,.int .i64 at_] 39)) (.cells #[.int .i64 0,.int .i64 0,.int .i64 0,.int .i64 0,.slice none 0 0,.slice none 0 0,.string ⟨#[]⟩,.int .i64 0] 39)
  have hz:=blk_new (w.alloc (.cells #[.int .i64 op,.int .i64 id,.int .i64 n,.int .i64 ty,.slice none 0 0,.slice none 0 0,.string nm,.int .i64 at_] 39)) (.cells #[.int .i64 0,.int .i64 0,.int .i64 0,.int .i64 0,.slice none 0 0,.slice none 0 0,.string ⟨#[]⟩,.int .i64 0] 39)
  have hs:(w.alloc (.cells #[.int .i64 op,.int .i64 id,.int .i64 n,.int .i64 ty,.slice none 0 0,.slice none 0 0,.string nm,.int .i64 at_] 39)).heap.size=w.heap.size+1:=by simp
  rw [hs] at hz
  have hi0:=(HI.out.alloc (.cells #[.int .i64 op,.int .i64 id,.int .i64 n,.int .i64 ty,.slice none 0 0,.slice none 0 0,.string nm,.int .i64 at_] 39)).alloc (.cells #[.int .i64 0,.int .i64 0,.int .i64 0,.int .i64 0,.slice none 0 0,.slice none 0 0,.string ⟨#[]⟩,.int .i64 0] 39)
  have hb0:=below_alloc (below_alloc HB.out (.cells #[.int .i64 op,.int .i64 id,.int .i64 n,.int .i64 ty,.slice none 0 0,.slice none 0 0,.string nm,.int .i64 at_] 39)) (.cells #[.int .i64 0,.int .i64 0,.int .i64 0,.int .i64 0,.slice none 0 0,.slice none 0 0,.string ⟨#[]⟩,.int .i64 0] 39)
  have hk0:=keep_alloc (keep_alloc (g:=g) (KeepBut.refl w g none) (.cells #[.int .i64 op,.int .i64 id,.int .i64 n,.int .i64 ty,.slice none 0 0,.slice none 0 0,.string nm,.int .i64 at_] 39)) (.cells #[.int .i64 0,.int .i64 0,.int .i64 0,.int .i64 0,.slice none 0 0,.slice none 0 0,.string ⟨#[]⟩,.int .i64 0] 39)
  clear hs
  go_upto_region 1 with (fail)
  generalize (w.alloc (.cells #[.int .i64 op,.int .i64 id,.int .i64 n,.int .i64 ty,.slice none 0 0,.slice none 0 0,.string nm,.int .i64 at_] 39)).alloc (.cells #[.int .i64 0,.int .i64 0,.int .i64 0,.int .i64 0,.slice none 0 0,.slice none 0 0,.string ⟨#[]⟩,.int .i64 0] 39)=W0 at hy hz hi0 hb0 hk0 ⊢
  have HX:=aM (show IXAt g (w.heap.size+1) W0.heap.size #[.int .i64 0,.int .i64 0,.int .i64 0,.int .i64 0,.slice none 0 0,.slice none 0 0,.string ⟨#[]⟩,.int .i64 0] tl ⟨op,id,n,ty,[],[],nm,at_⟩ (.slice none 0 0) (.slice none 0 0) s1 s2 s3 s4 s5 w0 w (W0.alloc (.cells #[.int .i64 op,.int .i64 id,.int .i64 n,.int .i64 ty,.slice none 0 0,.slice none 0 0,.string nm,.int .i64 at_] 39)) from
    ⟨hi0.alloc _,below_alloc hb0 _,keep_alloc hk0 _,HB.out.size,HL.out,Nat.le_succ _,blk_lt hz,blk_alloc hz _,blk_new _ _,TwoR.nil _ _⟩)
  have y_0:=blk_cell hy 0
  have y_1:=blk_cell hy 1
  have y_2:=blk_cell hy 2
  have y_3:=blk_cell hy 3
  have y_4:=blk_cell hy 4
  have y_5:=blk_cell hy 5
  have y_6:=blk_cell hy 6
  have y_7:=blk_cell hy 7
  clear hy hz hi0 hb0 hk0
  generalize hbx:W0.heap.size=bx_ at HX
  go_upto_region 2 with (fail)
  generalize W0.alloc (.cells #[.int .i64 op,.int .i64 id,.int .i64 n,.int .i64 ty,.slice none 0 0,.slice none 0 0,.string nm,.int .i64 at_] 39)=W1 at HX ⊢
  clear y_0 y_1 y_2 y_3 y_4 y_5 y_6 y_7
  go_wp2_with fail
  refine (r06_Reader_peek.calls g tl _ _ _ _ _ 0 _ _ _ _ _ _ w0 _ HX.out.i HX.out.b HP.out).mono ?_
  rintro e w1 ⟨rfl,hi_,hb_,hk_⟩
  have HX1:=aM (HX.out.call hi_ hb_ hk_)
  clear hi_ hb_ hk_
  go_upto_region 3 with (fail)
  obtain ⟨c,hc⟩:∃ c:Bool,c=(p0.toList !=([]:List UInt8) && bt p0 0==64):=⟨_,rfl⟩
  have hx:(if c=true then r06_Reader_index.f k tl p1 p2 p3 p4 p5 64 1048576 3 else some (n,p1,p2,p3,p4,p5))=some (x0,x1,x2,x3,x4,x5):=by
    have hx:=HXX.out
    rw [hc]
    by_cases c3:p0.toList=([]:List UInt8)
    · rw [if_pos c3] at hx
      simpa [c3] using hx
    · rw [if_neg c3] at hx
      by_cases c5:0<(p0.size:Int)
      · rw [if_pos c5] at hx
        simpa [c3] using hx
      · rw [if_neg c5] at hx
        cases hx
  have HY:=aM hx
  have HCC:=aM hc
  clear hx hc HXX HX
  go_cut [17] (fun v17 wc=>v17=.bool c∧wc=w1)
  case first=>
    have hc:=HCC.out
    by_cases c3:p0.toList=([]:List UInt8)
    · have c3b0:(p0.toList==([]:List UInt8))=true:=beq_iff_eq.mpr c3
      have c3b1:(p0.toList !=([]:List UInt8))=false:=bne_eq_false_iff_eq.mpr c3
      rw [c3b1,Bool.false_and] at hc
      subst hc
      clear c3
      go_wp2_with fail
      go_meet
      exact ⟨rfl,rfl⟩
    · have c3b0:(p0.toList==([]:List UInt8))=false:=beq_eq_false_iff_ne.mpr c3
      have c3b1:(p0.toList !=([]:List UInt8))=true:=bne_iff_ne.mpr c3
      have c5:0<p0.size:=by
        rcases Nat.eq_zero_or_pos p0.size with e | e
        · exact absurd (List.eq_nil_of_length_eq_zero (by rw [toList_eq,← size_data,e])) c3
        · exact e
      have c5b0:decide (0<(p0.size:Int))=true:=decide_eq_true (by omega)
      have c5b1:decide (0<p0.size)=true:=decide_eq_true c5
      rw [c3b1,Bool.true_and] at hc
      subst hc
      have hbt:((p0[0]'c5).toNat:Int)=bt p0 0:=bt_at p0 0 c5
      clear c3
      go_wp2_with fail
      go_meet
      exact ⟨rfl,rfl⟩
  case rest=>
    obtain ⟨rfl,rfl⟩:=hcut
    go_upto_if 17 with (fail)
    go_cut [] (fun wc2=>Aside0 (IXAt g (w.heap.size+1) bx_ #[.int .i64 0,.int .i64 0,.int .i64 0,.int .i64 0,.slice none 0 0,.slice none 0 0,.string ⟨#[]⟩,.int .i64 0] tl ⟨op,id,x0,ty,[],[],nm,at_⟩ (.slice none 0 0) (.slice none 0 0) x1 x2 x3 x4 x5 w0 w wc2))
    case first=>
      have hx:=HY.out
      cases c with
      | true=>
        rw [if_pos rfl] at hx
        have HY:=aM hx
        clear hx
        go_wp2_with fail
        refine (r06_Reader_index.calls k g tl _ _ _ _ _ 64 1048576 3 _ _ _ _ _ _ w0 _ HX1.out.i HX1.out.b HY.out).mono ?_
        rintro e w2 ⟨rfl,hi_,hb_,hk_⟩
        have HX2:=aM (HX1.out.call hi_ hb_ hk_)
        clear hi_ hb_ hk_
        have c2_:=HX2.out.at1 2
        have f2_:=blk_frozen HX2.out.box 2
        simp only [iObj] at c2_
        have HX3:=aM (HX2.out.put ⟨op,id,x0,ty,[],[],nm,at_⟩ 2 (.int .i64 x0) rfl rfl rfl)
        clear HX2
        go_wp2_with fail
        go_meet
        exact HX3
      | false=>
        rw [if_neg (by simp)] at hx
        simp only [Option.some.injEq,Prod.mk.injEq] at hx
        obtain ⟨rfl,rfl,rfl,rfl,rfl,rfl⟩:=hx
        go_wp2_with fail
        go_meet
        exact HX1
    case rest=>
      clear HX1
      have HX:=hcut
      clear hcut
      go_wp2_with fail
      refine (r06_Reader_name.calls k g tl _ _ _ _ _ _ _ _ _ _ _ w0 _ HX.out.i HX.out.b HM.out).mono ?_
      rintro e w2 ⟨rfl,hi_,hb_,hk_⟩
      have HX1:=aM (HX.out.call hi_ hb_ hk_)
      clear hi_ hb_ hk_
      have c6_:=HX1.out.at1 6
      have f6_:=blk_frozen HX1.out.box 6
      simp only [iObj] at c6_
      have HX2:=aM (HX1.out.put ⟨op,id,x0,ty,[],[],m0,at_⟩ 6 (.string m0) rfl rfl rfl)
      go_wp2
      (try simp only [Act.put,qA,qB,qC])
      generalize w2.setCell ⟨bx_,6,none⟩ (.string m0)=W3 at HX2 ⊢
      clear c6_ f6_ HX1 HX
      go_loopg [] k (fun kq w'=>∃ (xa:List Int) (va:Value) (t1 t2 t3 t4 t5:Int),Aside0 (rcaLoop kq tl xa t1 t2 t3 t4 t5=some (l0,l1,l2,l3,l4,l5))∧Aside0 (kq≤k)∧Aside0 (IXAt g (w.heap.size+1) bx_ #[.int .i64 0,.int .i64 0,.int .i64 0,.int .i64 0,.slice none 0 0,.slice none 0 0,.string ⟨#[]⟩,.int .i64 0] tl ⟨op,id,x0,ty,xa,[],m0,at_⟩ va (.slice none 0 0) t1 t2 t3 t4 t5 w0 w w'))
      case atStart=>exact ⟨_,_,_,_,_,_,_,⟨HLP.out⟩,⟨Nat.le_refl _⟩,⟨HX2.out⟩⟩
      case round=>
        clear HX2
        obtain ⟨xa,va,t1,t2,t3,t4,t5,HLO,HKQ,HX⟩:=hrel
        obtain ⟨Aa,ca,ea⟩:=Kd.R_slice HX.out.two.ra
        subst ea
        cases gk with
        | zero=>exact absurd HLO.out (by simp [rcaLoop])
        | succ k1=>
          have hl:=HLO.out
          simp only [rcaLoop] at hl
          replace hl:=Option.bind_eq_some_iff.mp hl
          obtain ⟨⟨c,u1,u2,u3,u4,u5⟩,hc,hl⟩:=hl
          have HC:=aM hc
          clear hc
          cases c with
          | true=>
            rw [if_pos rfl] at hl
            replace hl:=Option.bind_eq_some_iff.mp hl
            obtain ⟨⟨v0,v1,v2,v3,v4,v5⟩,hv,hl⟩:=hl
            by_cases hlen:xa.length<1000000000000
            rotate_left
            · rw [if_neg hlen] at hl
              cases hl
            rw [if_pos hlen] at hl
            have HV:=aM hv
            have HLEN:=aM hlen
            have HNX:=aM hl
            clear hv hlen hl HLO
            go_wp2_with fail
            refine (r06_Reader_taken.calls g tl _ _ _ _ _ _ _ _ _ _ _ w0 _ HX.out.i HX.out.b HC.out).mono ?_
            rintro e w3 ⟨rfl,hi_,hb_,hk_⟩
            have HX3:=aM (HX.out.call hi_ hb_ hk_)
            clear hi_ hb_ hk_
            go_wp2_with fail
            refine (r06_Reader_value.calls k1 g tl _ _ _ _ _ _ _ _ _ _ _ w0 _ HX3.out.i HX3.out.b HV.out).mono ?_
            rintro e w4 ⟨rfl,hi_,hb_,hk_⟩
            have HX4:=aM (HX3.out.call hi_ hb_ hk_)
            clear hi_ hb_ hk_
            have y4:=HX4.out.at1 4
            simp only [iObj] at y4
            go_wp2_with (first | ((with_reducible refine gate_builtin (b:=.append) (xs:=#[.tmp 29,.tmp 31]) rfl ?_);at_builtin;refine Kd.R_append (Kd.int .i64) w.heap.size rfl (.tmp 29) (.tmp 31) 31 3 (.int .i64 0) 8 rfl Try.underlying31 (by kernel_rfl) rfl (by decide) (by omega) (.slice Aa xa.length ca) xa v0 [.int .i64 v0] (fun _=>True) (fun k=>True∧some k≠(Value.slice Aa xa.length ca).ownBlock) rfl rfl rfl (fun k hk=>⟨trivial,hk.2⟩) (fun k hk=>trivial) HX4.out.two.ra (Below.refl _ _) (keep_size HX4.out.k) (by have:=HLEN.out;omega) ?_;intro v1 w4_ hr4 hb4 hg4 hv4;obtain ⟨A6,c6,e6⟩:=Kd.R_slice hr4;rw [List.length_append,List.length_singleton] at e6;subst e6;have HX6:=aM (HX4.out.app hg4 (.inl rfl) ⟨op,id,x0,ty,xa++[v0],[],m0,at_⟩ 4 _ rfl (HX4.out.two.appA hr4 hg4 hv4));have B4:=(hg4.block bx_ (blk_lt HX4.out.box) (Kd.R_ne HX4.out.two.ra HX4.out.box (by decide))).trans HX4.out.box;have c4_:=blk_cell B4 4;have f4_:=blk_frozen B4 4;clear hr4 hb4 hg4 hv4 B4))
            go_roundg k1
            case measure=>have:=HKQ.out;omega
            case rel=>exact ⟨_,_,_,_,_,_,_,⟨HNX.out⟩,⟨by have:=HKQ.out;omega⟩,⟨HX6.out⟩⟩
          | false=>
            rw [if_neg (by simp)] at hl
            simp only [Option.some.injEq,Prod.mk.injEq] at hl
            obtain ⟨rfl,rfl,rfl,rfl,rfl,rfl⟩:=hl
            clear HLO
            go_wp2_with fail
            refine (r06_Reader_taken.calls g tl _ _ _ _ _ _ _ _ _ _ _ w0 _ HX.out.i HX.out.b HC.out).mono ?_
            rintro e w3 ⟨rfl,hi_,hb_,hk_⟩
            have HX3:=aM (HX.out.call hi_ hb_ hk_)
            clear hi_ hb_ hk_
            clear HX
            have c_0:=HX3.out.at1 0
            have f_0:=blk_frozen HX3.out.box 0
            have d_0:=blk_cell HX3.out.zero 0
            have e_0:=blk_frozen HX3.out.zero 0
            have c_1:=HX3.out.at1 1
            have f_1:=blk_frozen HX3.out.box 1
            have d_1:=blk_cell HX3.out.zero 1
            have e_1:=blk_frozen HX3.out.zero 1
            have c_2:=HX3.out.at1 2
            have f_2:=blk_frozen HX3.out.box 2
            have d_2:=blk_cell HX3.out.zero 2
            have e_2:=blk_frozen HX3.out.zero 2
            have c_3:=HX3.out.at1 3
            have f_3:=blk_frozen HX3.out.box 3
            have d_3:=blk_cell HX3.out.zero 3
            have e_3:=blk_frozen HX3.out.zero 3
            have c_4:=HX3.out.at1 4
            have f_4:=blk_frozen HX3.out.box 4
            have d_4:=blk_cell HX3.out.zero 4
            have e_4:=blk_frozen HX3.out.zero 4
            have c_5:=HX3.out.at1 5
            have f_5:=blk_frozen HX3.out.box 5
            have d_5:=blk_cell HX3.out.zero 5
            have e_5:=blk_frozen HX3.out.zero 5
            have c_6:=HX3.out.at1 6
            have f_6:=blk_frozen HX3.out.box 6
            have d_6:=blk_cell HX3.out.zero 6
            have e_6:=blk_frozen HX3.out.zero 6
            have c_7:=HX3.out.at1 7
            have f_7:=blk_frozen HX3.out.box 7
            have d_7:=blk_cell HX3.out.zero 7
            have e_7:=blk_frozen HX3.out.zero 7
            have HE:=aM ((((((((HX3.out.setz 0 (.int .i64 (⟨op,id,x0,ty,xa,[],m0,at_⟩:S39).f0)).setz 1 (.int .i64 (⟨op,id,x0,ty,xa,[],m0,at_⟩:S39).f1)).setz 2 (.int .i64 (⟨op,id,x0,ty,xa,[],m0,at_⟩:S39).f2)).setz 3 (.int .i64 (⟨op,id,x0,ty,xa,[],m0,at_⟩:S39).f3)).setz 4 (.slice Aa xa.length ca)).setz 5 (.slice none 0 0)).setz 6 (.string (⟨op,id,x0,ty,xa,[],m0,at_⟩:S39).f6)).setz 7 (.int .i64 (⟨op,id,x0,ty,xa,[],m0,at_⟩:S39).f7))
            have hne:w.heap.size+1≠bx_:=by have:=HX3.out.lt;omega
            have hne':bx_≠w.heap.size+1:=by have:=HX3.out.lt;omega
            simp only [iObj] at c_0 c_1 c_2 c_3 c_4 c_5 c_6 c_7
            clear HX3
            go_wp2
            refine bodyPost_ret (results_cell_row rfl _ _ (w.heap.size+1) 39 #[.int .i64 (⟨op,id,x0,ty,xa,[],m0,at_⟩:S39).f0,.int .i64 (⟨op,id,x0,ty,xa,[],m0,at_⟩:S39).f1,.int .i64 (⟨op,id,x0,ty,xa,[],m0,at_⟩:S39).f2,.int .i64 (⟨op,id,x0,ty,xa,[],m0,at_⟩:S39).f3,.slice Aa xa.length ca,.slice none 0 0,.string (⟨op,id,x0,ty,xa,[],m0,at_⟩:S39).f6,.int .i64 (⟨op,id,x0,ty,xa,[],m0,at_⟩:S39).f7] (0,0) _ rfl HE.out.zero Try.underlying39 rfl (by kernel_rfl)) rfl ?_
            exact ⟨_,rfl,HE.out.two,HE.out.i,HE.out.b,HE.out.k⟩
abbrev RT6:Type:=Int × List Int × List Int × Int × Int × Int × Int × Int
def rreStep (k:Nat) (tl:List (S101)) (c:Nat):RT6→Option RT6
  | (n,xa,xt,s1,s2,s3,s4,s5)=>if c=118 then (r06_Reader_value.f k tl s1 s2 s3 s4 s5).bind fun y=>some (n,xa++[y.1],xt,y.2.1,y.2.2.1,y.2.2.2.1,y.2.2.2.2.1,y.2.2.2.2.2)
    else if c=115 then (r06_Reader_number.f k tl s1 s2 s3 s4 s5 0 15).bind fun y=>some (y.1,xa,xt,y.2.1,y.2.2.1,y.2.2.2.1,y.2.2.2.2.1,y.2.2.2.2.2)
    else if c=110 then (r06_Reader_number.f k tl s1 s2 s3 s4 s5 0 1048576).bind fun y=>some (y.1,xa,xt,y.2.1,y.2.2.1,y.2.2.2.1,y.2.2.2.2.1,y.2.2.2.2.2)
    else if c=108 then (r06_Reader_label.f k tl s1 s2 s3 s4 s5).bind fun y=>some (n,xa,xt++[y.1],y.2.1,y.2.2.1,y.2.2.2.1,y.2.2.2.2.1,y.2.2.2.2.2)
    else some (n,xa,xt,s1,s2,s3,s4,s5)
def rreSteps (k:Nat) (tl:List (S101)):List UInt8→RT6→Option RT6
  | [],st=>some st
  | c::cs,st=>(rreStep k tl c.toNat st).bind fun st2=>rreSteps k tl cs st2
def r06_Reader_rest.f (k:Nat) (tl:List (S101)) (s1 s2 s3 s4 s5:Int) (n:Int) (l:ByteArray):Option RT6:=if l.size≤8 then rreSteps k tl l.data.toList (n,[],[],s1,s2,s3,s4,s5) else none
theorem rre_round (k:Nat) (tl:List (S101)) (q:ByteArray) (st R:RT6) (x5:Int) (h0:0≤x5) (h1:x5<(q.size:Int)) (h:rreSteps k tl (q.data.toList.drop x5.toNat) st=some R):
    ∃ (cn:Nat) (st2:RT6),bt q x5=(cn:Int)∧rreStep k tl cn st=some st2∧rreSteps k tl (q.data.toList.drop (x5+1).toNat) st2=some R:=by
  obtain ⟨n,rfl⟩:=Int.eq_ofNat_of_zero_le h0
  have hp:n<q.size:=by omega
  have hp2:n<q.data.toList.length:=by rw [← size_data];exact hp
  rw [Int.toNat_natCast,List.drop_eq_getElem_cons hp2] at h
  obtain ⟨s,hs,h⟩:=Option.bind_eq_some_iff.mp h
  have e1:((n:Int)+1).toNat=n+1:=by omega
  rw [e1]
  exact ⟨_,s,(bt_at q (n:Int) (by rw [Int.toNat_natCast];exact hp)).symm,hs,h⟩
theorem rreStep_len (k:Nat) (tl:List (S101)) (c:Nat) (n:Int) (xa xt:List Int) (s1 s2 s3 s4 s5:Int) (R:RT6) (h:rreStep k tl c (n,xa,xt,s1,s2,s3,s4,s5)=some R):R.2.1.length≤xa.length+1∧R.2.2.1.length≤xt.length+1:=by
  simp only [rreStep] at h
  split at h
  · obtain ⟨y,-,h⟩:=Option.bind_eq_some_iff.mp h
    obtain rfl:=Option.some.inj h
    simp
  · split at h
    · obtain ⟨y,-,h⟩:=Option.bind_eq_some_iff.mp h
      obtain rfl:=Option.some.inj h
      simp
    · split at h
      · obtain ⟨y,-,h⟩:=Option.bind_eq_some_iff.mp h
        obtain rfl:=Option.some.inj h
        simp
      · split at h
        · obtain ⟨y,-,h⟩:=Option.bind_eq_some_iff.mp h
          obtain rfl:=Option.some.inj h
          simp
        · obtain rfl:=Option.some.inj h
          simp
theorem r06_Reader_rest.calls (k g:Nat) (tl:List (S101)) (s1 s2 s3 s4 s5:Int) (op id n ty:Int) (nm:ByteArray) (at_:Int) (l:ByteArray) (rn:Int) (ras rts:List Int) (r1 r2 r3 r4 r5:Int) (w0 w:World) (hI:IsS89 w0 w g tl s1 s2 s3 s4 s5) (hB:Below w0.heap.size w0 w) (h:r06_Reader_rest.f k tl s1 s2 s3 s4 s5 n l=some (rn,ras,rts,r1,r2,r3,r4,r5)):
    Calls Try.prog 114 #[.pointer (some ⟨g,0,none⟩),.agg #[.int .i64 op,.int .i64 id,.int .i64 n,.int .i64 ty,.slice none 0 0,.slice none 0 0,.string nm,.int .i64 at_],.string l] w fun e w'=>∃ va vt:Value,e=.returned (.agg #[.int .i64 op,.int .i64 id,.int .i64 rn,.int .i64 ty,va,vt,.string nm,.int .i64 at_])∧TwoR w' w.heap.size va vt ras rts∧IsS89 w0 w' g tl r1 r2 r3 r4 r5∧Below w0.heap.size w0 w'∧KeepBut w w' g none:=by
  have hu39:=Try.underlying39
  unfold r06_Reader_rest.f at h
  by_cases hg:l.size≤8
  rotate_left
  · rw [if_neg hg] at h
    cases h
  rw [if_pos hg] at h
  have HST:=aM h
  have HG:=aM hg
  clear h hg
  have HI:=aM hI
  have HB:=aM hB
  have HL:=aM hI.lt
  clear hI hB
  go_enter Try.func114,Try.ntmps114
  have hy:=blk_alloc (blk_new w (.cells #[.int .i64 op,.int .i64 id,.int .i64 n,.int .i64 ty,.slice none 0 0,.slice none 0 0,.string nm,.int .i64 at_] 39)) (.cells #[.int .i64 0,.int .i64 0,.int .i64 0,.int .i64 0,.slice none 0 0,.slice none 0 0,.string ⟨#[]⟩,.int .i64 0] 39)
  have hz:=blk_new (w.alloc (.cells #[.int .i64 op,.int .i64 id,.int .i64 n,.int .i64 ty,.slice none 0 0,.slice none 0 0,.string nm,.int .i64 at_] 39)) (.cells #[.int .i64 0,.int .i64 0,.int .i64 0,.int .i64 0,.slice none 0 0,.slice none 0 0,.string ⟨#[]⟩,.int .i64 0] 39)
  have hs:(w.alloc (.cells #[.int .i64 op,.int .i64 id,.int .i64 n,.int .i64 ty,.slice none 0 0,.slice none 0 0,.string nm,.int .i64 at_] 39)).heap.size=w.heap.size+1:=by simp
  rw [hs] at hz
  have hi0:=(HI.out.alloc (.cells #[.int .i64 op,.int .i64 id,.int .i64 n,.int .i64 ty,.slice none 0 0,.slice none 0 0,.string nm,.int .i64 at_] 39)).alloc (.cells #[.int .i64 0,.int .i64 0,.int .i64 0,.int .i64 0,.slice none 0 0,.slice none 0 0,.string ⟨#[]⟩,.int .i64 0] 39)
  have hb0:=below_alloc (below_alloc HB.out (.cells #[.int .i64 op,.int .i64 id,.int .i64 n,.int .i64 ty,.slice none 0 0,.slice none 0 0,.string nm,.int .i64 at_] 39)) (.cells #[.int .i64 0,.int .i64 0,.int .i64 0,.int .i64 0,.slice none 0 0,.slice none 0 0,.string ⟨#[]⟩,.int .i64 0] 39)
  have hk0:=keep_alloc (keep_alloc (g:=g) (KeepBut.refl w g none) (.cells #[.int .i64 op,.int .i64 id,.int .i64 n,.int .i64 ty,.slice none 0 0,.slice none 0 0,.string nm,.int .i64 at_] 39)) (.cells #[.int .i64 0,.int .i64 0,.int .i64 0,.int .i64 0,.slice none 0 0,.slice none 0 0,.string ⟨#[]⟩,.int .i64 0] 39)
  clear hs
  go_upto_region 1 with (fail)
  generalize (w.alloc (.cells #[.int .i64 op,.int .i64 id,.int .i64 n,.int .i64 ty,.slice none 0 0,.slice none 0 0,.string nm,.int .i64 at_] 39)).alloc (.cells #[.int .i64 0,.int .i64 0,.int .i64 0,.int .i64 0,.slice none 0 0,.slice none 0 0,.string ⟨#[]⟩,.int .i64 0] 39)=W0 at hy hz hi0 hb0 hk0 ⊢
  have HX:=aM (show IXAt g (w.heap.size+1) W0.heap.size #[.int .i64 0,.int .i64 0,.int .i64 0,.int .i64 0,.slice none 0 0,.slice none 0 0,.string ⟨#[]⟩,.int .i64 0] tl ⟨op,id,n,ty,[],[],nm,at_⟩ (.slice none 0 0) (.slice none 0 0) s1 s2 s3 s4 s5 w0 w (W0.alloc (.cells #[.int .i64 op,.int .i64 id,.int .i64 n,.int .i64 ty,.slice none 0 0,.slice none 0 0,.string nm,.int .i64 at_] 39)) from
    ⟨hi0.alloc _,below_alloc hb0 _,keep_alloc hk0 _,HB.out.size,HL.out,Nat.le_succ _,blk_lt hz,blk_alloc hz _,blk_new _ _,TwoR.nil _ _⟩)
  have y_0:=blk_cell hy 0
  have y_1:=blk_cell hy 1
  have y_2:=blk_cell hy 2
  have y_3:=blk_cell hy 3
  have y_4:=blk_cell hy 4
  have y_5:=blk_cell hy 5
  have y_6:=blk_cell hy 6
  have y_7:=blk_cell hy 7
  clear hy hz hi0 hb0 hk0
  generalize hbx:W0.heap.size=bx_ at HX
  go_wp2
  (try simp only [Act.put,qA,qB,qC])
  generalize W0.alloc (.cells #[.int .i64 op,.int .i64 id,.int .i64 n,.int .i64 ty,.slice none 0 0,.slice none 0 0,.string nm,.int .i64 at_] 39)=W1 at HX ⊢
  clear y_0 y_1 y_2 y_3 y_4 y_5 y_6 y_7
  go_loopg [8] l.size (fun kq v8 w'=>∃ (x5 m:Int) (xa xt:List Int) (va vt:Value) (t1 t2 t3 t4 t5:Int),v8=.int .i64 x5∧Aside0 (0≤x5∧x5≤(l.size:Int))∧Aside0 (rreSteps k tl (l.data.toList.drop x5.toNat) (m,xa,xt,t1,t2,t3,t4,t5)=some (rn,ras,rts,r1,r2,r3,r4,r5))∧Aside0 (IXAt g (w.heap.size+1) bx_ #[.int .i64 0,.int .i64 0,.int .i64 0,.int .i64 0,.slice none 0 0,.slice none 0 0,.string ⟨#[]⟩,.int .i64 0] tl ⟨op,id,m,ty,xa,xt,nm,at_⟩ va vt t1 t2 t3 t4 t5 w0 w w')∧Aside0 (kq=l.size - x5.toNat)∧Aside0 (xa.length≤x5.toNat∧xt.length≤x5.toNat))
  case atStart=>exact ⟨0,_,_,_,_,_,_,_,_,_,_,rfl,⟨by omega⟩,⟨HST.out⟩,⟨HX.out⟩,⟨rfl⟩,⟨by simp⟩⟩
  case round=>
    clear HX
    obtain ⟨x5,m,xa,xt,va,vt,t1,t2,t3,t4,t5,rfl,HPO,HRS,HX,HK,HLE⟩:=hrel
    obtain ⟨Aa,ca,At,ct,ea,et⟩:=HX.out.sl
    subst ea
    subst et
    by_cases hp:x5<(l.size:Int)
    · obtain ⟨cn,⟨m',xa',xt',u1,u2,u3,u4,u5⟩,hbt,hs,hrest⟩:=rre_round k tl l _ _ x5 HPO.out.1 hp HRS.out
      have hl2:=rreStep_len _ _ _ _ _ _ _ _ _ _ _ _ hs
      have HLE2:=aM hl2
      have HLEN:=aM (show xt.length<1000000000000∧xa.length<1000000000000 from by have:=HLE.out;have:=HG.out;have:=HPO.out;omega)
      have p22:(0≤x5)=True:=eq_true HPO.out.1
      have q22:(x5<(l.size:Int))=True:=eq_true hp
      have d22:decide (x5<(l.size:Int))=true:=decide_eq_true hp
      have hx22:=bt_at l x5
      have HP2:=aM hp
      have HS:=aM hs
      have HR2:=aM hrest
      clear hp hs hrest HRS hl2
      have HBT:=aM hbt
      clear hbt
      go_upto_block 1 with (fail)
      go_cut [] (fun wx=>∃ va' vt',Aside0 (IXAt g (w.heap.size+1) bx_ #[.int .i64 0,.int .i64 0,.int .i64 0,.int .i64 0,.slice none 0 0,.slice none 0 0,.string ⟨#[]⟩,.int .i64 0] tl ⟨op,id,m',ty,xa',xt',nm,at_⟩ va' vt' u1 u2 u3 u4 u5 w0 w wx))
      case first=>
        have hbt:=HBT.out
        have hs:=HS.out
        simp only [rreStep] at hs
        by_cases k0:cn=118
        · rw [if_pos k0] at hs
          have g0:(bt l x5==118)=true:=beq_iff_eq.mpr (by omega)
          clear hbt k0
          obtain ⟨⟨y0,y1,y2,y3,y4,y5⟩,hy,hs⟩:=Option.bind_eq_some_iff.mp hs
          have HZ:=aM hy
          clear hy
          replace hs:=Option.some.inj hs
          simp only [Prod.mk.injEq] at hs
          obtain ⟨rfl,rfl,rfl,rfl,rfl,rfl,rfl,rfl⟩:=hs
          go_wp2_with fail
          refine (r06_Reader_value.calls k g tl _ _ _ _ _ _ _ _ _ _ _ w0 _ HX.out.i HX.out.b HZ.out).mono ?_
          rintro e w2 ⟨rfl,hi_,hb_,hk_⟩
          have HX2:=aM (HX.out.call hi_ hb_ hk_)
          clear hi_ hb_ hk_
          have y_:=HX2.out.at1 4
          simp only [iObj] at y_
          go_wp2_with (first | ((with_reducible refine gate_builtin (b:=.append) (xs:=#[.tmp 26,.tmp 28]) rfl ?_);at_builtin;refine Kd.R_append (Kd.int .i64) w.heap.size rfl (.tmp 26) (.tmp 28) 31 3 (.int .i64 0) 8 rfl Try.underlying31 (by kernel_rfl) rfl (by decide) (by omega) (.slice Aa xa.length ca) xa y0 [.int .i64 y0] (fun _=>True) (fun k=>True∧some k≠(Value.slice Aa xa.length ca).ownBlock) rfl rfl rfl (fun k hk=>⟨trivial,hk.2⟩) (fun k hk=>trivial) HX2.out.two.ra (Below.refl _ _) (keep_size HX2.out.k) (by have:=HLEN.out;omega) ?_;intro v1 w4_ hr4 hb4 hg4 hv4;obtain ⟨A6,c6,e6⟩:=Kd.R_slice hr4;rw [List.length_append,List.length_singleton] at e6;subst e6;have HX3:=aM (HX2.out.app hg4 (.inl rfl) ⟨op,id,m,ty,xa++[y0],xt,nm,at_⟩ 4 _ rfl (HX2.out.two.appA hr4 hg4 hv4));have B4:=(hg4.block bx_ (blk_lt HX2.out.box) (Kd.R_ne HX2.out.two.ra HX2.out.box (by decide))).trans HX2.out.box;have c4_:=blk_cell B4 4;have f4_:=blk_frozen B4 4;clear hr4 hb4 hg4 hv4 B4))
          go_meet
          exact ⟨_,_,HX3⟩
        rw [if_neg k0] at hs
        have g0:(bt l x5==118)=false:=beq_eq_false_iff_ne.mpr (by omega)
        by_cases k1:cn=115
        · rw [if_pos k1] at hs
          have g1:(bt l x5==115)=true:=beq_iff_eq.mpr (by omega)
          clear hbt k1
          obtain ⟨⟨y0,y1,y2,y3,y4,y5⟩,hy,hs⟩:=Option.bind_eq_some_iff.mp hs
          have HZ:=aM hy
          clear hy
          replace hs:=Option.some.inj hs
          simp only [Prod.mk.injEq] at hs
          obtain ⟨rfl,rfl,rfl,rfl,rfl,rfl,rfl,rfl⟩:=hs
          go_wp2_with fail
          refine (r06_Reader_number.calls k g tl _ _ _ _ _ 0 15 _ _ _ _ _ _ w0 _ HX.out.i HX.out.b HZ.out).mono ?_
          rintro e w2 ⟨rfl,hi_,hb_,hk_⟩
          have HX2:=aM (HX.out.call hi_ hb_ hk_)
          clear hi_ hb_ hk_
          have c2_:=HX2.out.at1 2
          have f2_:=blk_frozen HX2.out.box 2
          simp only [iObj] at c2_
          have HX3:=aM (HX2.out.put ⟨op,id,y0,ty,xa,xt,nm,at_⟩ 2 (.int .i64 y0) rfl rfl rfl)
          clear HX2
          go_wp2_with fail
          go_meet
          exact ⟨_,_,HX3⟩
        rw [if_neg k1] at hs
        have g1:(bt l x5==115)=false:=beq_eq_false_iff_ne.mpr (by omega)
        by_cases k2:cn=110
        · rw [if_pos k2] at hs
          have g2:(bt l x5==110)=true:=beq_iff_eq.mpr (by omega)
          clear hbt k2
          obtain ⟨⟨y0,y1,y2,y3,y4,y5⟩,hy,hs⟩:=Option.bind_eq_some_iff.mp hs
          have HZ:=aM hy
          clear hy
          replace hs:=Option.some.inj hs
          simp only [Prod.mk.injEq] at hs
          obtain ⟨rfl,rfl,rfl,rfl,rfl,rfl,rfl,rfl⟩:=hs
          go_wp2_with fail
          refine (r06_Reader_number.calls k g tl _ _ _ _ _ 0 1048576 _ _ _ _ _ _ w0 _ HX.out.i HX.out.b HZ.out).mono ?_
          rintro e w2 ⟨rfl,hi_,hb_,hk_⟩
          have HX2:=aM (HX.out.call hi_ hb_ hk_)
          clear hi_ hb_ hk_
          have c2_:=HX2.out.at1 2
          have f2_:=blk_frozen HX2.out.box 2
          simp only [iObj] at c2_
          have HX3:=aM (HX2.out.put ⟨op,id,y0,ty,xa,xt,nm,at_⟩ 2 (.int .i64 y0) rfl rfl rfl)
          clear HX2
          go_wp2_with fail
          go_meet
          exact ⟨_,_,HX3⟩
        rw [if_neg k2] at hs
        have g2:(bt l x5==110)=false:=beq_eq_false_iff_ne.mpr (by omega)
        by_cases k3:cn=108
        · rw [if_pos k3] at hs
          have g3:(bt l x5==108)=true:=beq_iff_eq.mpr (by omega)
          clear hbt k3
          obtain ⟨⟨y0,y1,y2,y3,y4,y5⟩,hy,hs⟩:=Option.bind_eq_some_iff.mp hs
          have HZ:=aM hy
          clear hy
          replace hs:=Option.some.inj hs
          simp only [Prod.mk.injEq] at hs
          obtain ⟨rfl,rfl,rfl,rfl,rfl,rfl,rfl,rfl⟩:=hs
          go_wp2_with fail
          refine (r06_Reader_label.calls k g tl _ _ _ _ _ _ _ _ _ _ _ w0 _ HX.out.i HX.out.b HZ.out).mono ?_
          rintro e w2 ⟨rfl,hi_,hb_,hk_⟩
          have HX2:=aM (HX.out.call hi_ hb_ hk_)
          clear hi_ hb_ hk_
          have y_:=HX2.out.at1 5
          simp only [iObj] at y_
          go_wp2_with (first | ((with_reducible refine gate_builtin (b:=.append) (xs:=#[.tmp 46,.tmp 48]) rfl ?_);at_builtin;refine Kd.R_append (Kd.int .i64) w.heap.size rfl (.tmp 46) (.tmp 48) 31 3 (.int .i64 0) 8 rfl Try.underlying31 (by kernel_rfl) rfl (by decide) (by omega) (.slice At xt.length ct) xt y0 [.int .i64 y0] (fun _=>True) (fun k=>True∧some k≠(Value.slice At xt.length ct).ownBlock) rfl rfl rfl (fun k hk=>⟨trivial,hk.2⟩) (fun k hk=>trivial) HX2.out.two.rt (Below.refl _ _) (keep_size HX2.out.k) (by have:=HLEN.out;omega) ?_;intro v1 w4_ hr4 hb4 hg4 hv4;obtain ⟨A6,c6,e6⟩:=Kd.R_slice hr4;rw [List.length_append,List.length_singleton] at e6;subst e6;have HX3:=aM (HX2.out.app hg4 (.inr rfl) ⟨op,id,m,ty,xa,xt++[y0],nm,at_⟩ 5 _ rfl (HX2.out.two.appT hr4 hg4 hv4));have B4:=(hg4.block bx_ (blk_lt HX2.out.box) (Kd.R_ne HX2.out.two.rt HX2.out.box (by decide))).trans HX2.out.box;have c4_:=blk_cell B4 5;have f4_:=blk_frozen B4 5;clear hr4 hb4 hg4 hv4 B4))
          go_meet
          exact ⟨_,_,HX3⟩
        rw [if_neg k3] at hs
        have g3:(bt l x5==108)=false:=beq_eq_false_iff_ne.mpr (by omega)
        replace hs:=Option.some.inj hs
        simp only [Prod.mk.injEq] at hs
        obtain ⟨rfl,rfl,rfl,rfl,rfl,rfl,rfl,rfl⟩:=hs
        clear k0 k1 k2 k3 hbt
        go_wp2_with fail
        go_meet
        exact ⟨_,_,HX⟩
      case rest=>
        obtain ⟨va',vt',HX5⟩:=hcut
        clear HX
        go_wp2_with fail
        go_roundg (l.size - (x5+1).toNat)
        case measure=>have:=HK.out;have:=HP2.out;have:=HPO.out;omega
        case rel=>exact ⟨x5+1,_,_,_,_,_,_,_,_,_,_,by rw [show wrap64 (x5+1)=x5+1 from w64 (by have:=HPO.out;omega) (by have:=HP2.out;have:=HG.out;omega)],⟨by have:=HP2.out;have:=HPO.out;omega⟩,⟨HR2.out⟩,⟨HX5.out⟩,⟨rfl⟩,⟨by have h1:=HLE.out;have h2:=HLE2.out;have h3:=HPO.out;omega⟩⟩
    · have hd:l.data.toList.drop x5.toNat=[]:=List.drop_eq_nil_of_le (by rw [← size_data];have:=HPO.out;omega)
      have d22:decide (x5<(l.size:Int))=false:=decide_eq_false hp
      have hr:=HRS.out
      rw [hd] at hr
      replace hr:=Option.some.inj hr
      simp only [Prod.mk.injEq] at hr
      obtain ⟨rfl,rfl,rfl,rfl,rfl,rfl,rfl,rfl⟩:=hr
      clear hd hp HRS
      have c_0:=HX.out.at1 0
      have f_0:=blk_frozen HX.out.box 0
      have d_0:=blk_cell HX.out.zero 0
      have e_0:=blk_frozen HX.out.zero 0
      have c_1:=HX.out.at1 1
      have f_1:=blk_frozen HX.out.box 1
      have d_1:=blk_cell HX.out.zero 1
      have e_1:=blk_frozen HX.out.zero 1
      have c_2:=HX.out.at1 2
      have f_2:=blk_frozen HX.out.box 2
      have d_2:=blk_cell HX.out.zero 2
      have e_2:=blk_frozen HX.out.zero 2
      have c_3:=HX.out.at1 3
      have f_3:=blk_frozen HX.out.box 3
      have d_3:=blk_cell HX.out.zero 3
      have e_3:=blk_frozen HX.out.zero 3
      have c_4:=HX.out.at1 4
      have f_4:=blk_frozen HX.out.box 4
      have d_4:=blk_cell HX.out.zero 4
      have e_4:=blk_frozen HX.out.zero 4
      have c_5:=HX.out.at1 5
      have f_5:=blk_frozen HX.out.box 5
      have d_5:=blk_cell HX.out.zero 5
      have e_5:=blk_frozen HX.out.zero 5
      have c_6:=HX.out.at1 6
      have f_6:=blk_frozen HX.out.box 6
      have d_6:=blk_cell HX.out.zero 6
      have e_6:=blk_frozen HX.out.zero 6
      have c_7:=HX.out.at1 7
      have f_7:=blk_frozen HX.out.box 7
      have d_7:=blk_cell HX.out.zero 7
      have e_7:=blk_frozen HX.out.zero 7
      have HE:=aM ((((((((HX.out.setz 0 (.int .i64 (⟨op,id,m,ty,xa,xt,nm,at_⟩:S39).f0)).setz 1 (.int .i64 (⟨op,id,m,ty,xa,xt,nm,at_⟩:S39).f1)).setz 2 (.int .i64 (⟨op,id,m,ty,xa,xt,nm,at_⟩:S39).f2)).setz 3 (.int .i64 (⟨op,id,m,ty,xa,xt,nm,at_⟩:S39).f3)).setz 4 (.slice Aa xa.length ca)).setz 5 (.slice At xt.length ct)).setz 6 (.string (⟨op,id,m,ty,xa,xt,nm,at_⟩:S39).f6)).setz 7 (.int .i64 (⟨op,id,m,ty,xa,xt,nm,at_⟩:S39).f7))
      have hne:w.heap.size+1≠bx_:=by have:=HX.out.lt;omega
      have hne':bx_≠w.heap.size+1:=by have:=HX.out.lt;omega
      simp only [iObj] at c_0 c_1 c_2 c_3 c_4 c_5 c_6 c_7
      clear HX
      go_wp2
      refine bodyPost_ret (results_cell_row rfl _ _ (w.heap.size+1) 39 #[.int .i64 (⟨op,id,m,ty,xa,xt,nm,at_⟩:S39).f0,.int .i64 (⟨op,id,m,ty,xa,xt,nm,at_⟩:S39).f1,.int .i64 (⟨op,id,m,ty,xa,xt,nm,at_⟩:S39).f2,.int .i64 (⟨op,id,m,ty,xa,xt,nm,at_⟩:S39).f3,.slice Aa xa.length ca,.slice At xt.length ct,.string (⟨op,id,m,ty,xa,xt,nm,at_⟩:S39).f6,.int .i64 (⟨op,id,m,ty,xa,xt,nm,at_⟩:S39).f7] (0,0) _ rfl HE.out.zero Try.underlying39 rfl (by kernel_rfl)) rfl ?_
      exact ⟨_,_,rfl,HE.out.two,HE.out.i,HE.out.b,HE.out.k⟩
end Go.Proofs.Ytkjdblbgmomieaa.PSh
end
