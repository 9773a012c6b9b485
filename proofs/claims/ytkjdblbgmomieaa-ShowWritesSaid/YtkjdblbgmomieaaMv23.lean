import Derived.Laws.EntriesVeiled
import Derived.Test.YtkjdblbgmomieaaMv21
import Derived.Test.YtkjdblbgmomieaaMv22
section
namespace Go.Proofs.Ytkjdblbgmomieaa.PSh
set_option maxHeartbeats 16000000
set_option maxRecDepth 100000
open Go.RowKit Go.Proofs.YtkjdblbgmomieaaW.PrintWords Go.Proofs.YtkjdblbgmomieaaW.PrintLast Go.Proofs.YtkjdblbgmomieaaW.PrintMore Go.Proofs.Ytkjdblbgmomieaa.Str
set_option linter.unusedVariables false
set_option linter.unusedSimpArgs false
def valsW:List Int→Option (List ByteArray)
  | []=>some []
  | a::l=>(show_value.f a).bind fun v=>(valsW l).bind fun r=>some (v::r)
def labsW:List Int→Option (List ByteArray)
  | []=>some []
  | a::l=>(show_label.f a).bind fun v=>(labsW l).bind fun r=>some (v::r)
def phiW:List Int→List Int→Option (List ByteArray)
  | [],_=>some []
  | _::_,[]=>none
  | b::bs,a::l=>(show_label.f b).bind fun u=>(show_value.f a).bind fun v=>(phiW bs l).bind fun r=>some (u::v::r)
def tailW (op n:Int) (l4 l5:List Int) (nm:ByteArray):Option (List ByteArray):=
  if isOne op [1,23,29]=true then (digits_Print.f n).bind fun d=>some [d]
  else if op=10 then some [nm]
  else if isOne op [11,12,15,24,13,14]=true then match l4 with
    | []=>none
    | a::l=>(show_value.f a).bind fun v=>(digits_Print.f n).bind fun d=>(valsW l).bind fun r=>some (v::d::r)
  else if op=20 then phiW l5 l4
  else if op=21 then (if n=0 then some [] else (digits_Print.f n).bind fun d=>if 1+d.size≤9223372036854775807 then some [(⟨#[64]⟩:ByteArray)++d] else none).bind fun h=>(valsW l4).bind fun r=>some (h++nm::r)
  else (valsW l4).bind fun r=>(labsW l5).bind fun q=>some (r++q)
def headW (op id ty:Int):Option (List ByteArray):=if makesI op ty=0 then some [] else (show_value.f id).bind fun v=>some [v,(⟨#[61]⟩:ByteArray)]
def show_Instr.f (op id n ty:Int) (l4 l5:List Int) (nm:ByteArray) (at_:Int):Option ByteArray:=
  (headW op id ty).bind fun h=>(tailW op n l4 l5 nm).bind fun t=>if (h++mk (wordL op ty)::t).length≤1000000 then show_line.f (h++mk (wordL op ty)::t) else none
theorem goesV_ {P : Program} {ops : Array Oper} {Q : Exit → Act → World → Prop} {oi : Oper} {N : Option Tmp} {a : Act} {w : World} {K : Act → World → Prop} {f : FuncId} {fn : Func} {x : Operand} {ar : Array Operand} {ts : Array TypeId} (hf : P.funcs[f]? = some fn) (hname : (fn.name == "runtime.NumGoroutine") = false) (hb : fn.body.isSome = true) (cap args : Array Value)
    (hw:Region.wanted oi (yielded ops a.tmps)=true) (hN:oi.dst=N) (hop:oi.op=.call { callee:=.value x,args:=ar,argTypes:=ts }) (hx:a.eval x=.func (.func f) #[] cap) (hargs:ar.map a.eval++cap=args)
    (h:Calls P f args w fun e w'=>∃ v,e=.returned v∧K (a.put N v) w'):if Region.wanted oi (yielded ops a.tmps)=true then Oper.wp P oi a w K Q else K (a.put N undef) w:=by
  refine call_ f args hw hN ?_ h
  have he:=enters_ hf hname hb args w
  unfold execOp
  simp [hop,resolve,Deferred.ofValue,invoke,hx,hargs,he]
theorem str_row {W:World} {g t:Nat} {ys:List ByteArray} (h:W.heap[g]?=some (.cells (ys.map Value.string).toArray t (0,0))) (hl:ys.length≤9223372036854775807):Kd.C Kd.string W (some ⟨g,0,none⟩) ys.length ys:=by
  refine ⟨rfl,hl,fun _=>⟨⟨g,0,none⟩,rfl,fun j p hj=>⟨[.string p],rfl,rfl,fun i u hi=>?_⟩⟩⟩
  cases i with
  | succ i=>simp at hi
  | zero=>
    obtain rfl:Value.string p=u:=by simpa using hi
    have e:(⟨g,0,none⟩:Addr).add (j * Kd.string.sz+0)=⟨g,j,none⟩:=by
      rw [show j * Kd.string.sz+0=j from by show j * 1+0=j;omega,add_at,Nat.zero_add]
    rw [e,blk_cell h j]
    simp [hj]
structure SIAt (b1 b3 b4:Nat) (bx:Array Value) (v:Value) (ws:List ByteArray) (w w':World):Prop where
  box:w'.heap[b1]?=some (.cells bx 39 (0,0))
  var:w'.heap[b3]?=some (.cells #[v] 56 (0,0))
  fn:w'.heap[b4]?=some (.cells #[.func (.func 37) #[] #[.pointer (some ⟨b3,0,none⟩)]] 63 (0,0))
  row:Kd.R Kd.string 9 w' w.heap.size (fun _=>True) v ws
  ge:w.heap.size≤b3
  bel:Below w.heap.size w w'
section
variable {b1 b3 b4 : Nat} {bx : Array Value} {v : Value} {ws ys : List ByteArray} {w w1 w2 : World}
theorem SIAt.below (h:SIAt b1 b3 b4 bx v ws w w1) (hb:Below w1.heap.size w1 w2):SIAt b1 b3 b4 bx v ws w w2:=
  ⟨blk_below h.box hb,blk_below h.var hb,blk_below h.fn hb,Kd.R_below h.row hb,h.ge,below_step h.bel hb⟩
theorem SIAt.put (h:SIAt b1 b3 b4 bx v ws w w1) {v1:Value} (hr:Kd.R Kd.string 9 w2 w.heap.size (fun _=>True) v1 ys) (hg:w1.grownBy w2 v.ownBlock):SIAt b1 b3 b4 bx v1 ys w (w2.setCell ⟨b3,0,none⟩ v1):=by
  have n1:b1≠b3:=fun e=>by
    have:=h.box
    rw [e,h.var] at this
    injection this with this
    injection this with _ this
    exact absurd this (by decide)
  have n4:b4≠b3:=fun e=>by
    have:=h.fn
    rw [e,h.var] at this
    injection this with this
    injection this with _ this
    exact absurd this (by decide)
  have hx:=(hg.block b1 (blk_lt h.box) (Kd.R_ne h.row h.box (by decide))).trans h.box
  have hv:=(hg.block b3 (blk_lt h.var) (Kd.R_ne h.row h.var (by decide))).trans h.var
  have hf:=(hg.block b4 (blk_lt h.fn) (Kd.R_ne h.row h.fn (by decide))).trans h.fn
  exact ⟨(Below.heap_setCell w2 ⟨b3,0,none⟩ v1 _ n1).trans hx,blk_put hv 0 _ rfl,(Below.heap_setCell w2 ⟨b3,0,none⟩ v1 _ n4).trans hf,Kd.R_set hr hv (by decide) 0 _,h.ge,below_set (pw_below_grown h.bel v.ownBlock h.bel.size hg (fun k e=>Kd.R_base h.row k e)) h.ge⟩
end
theorem put_calls (b1 b3 b4:Nat) (bx:Array Value) (v:Value) (ws ys:List ByteArray) (A:Option Addr) (c:Nat) (w w1:World) (h:SIAt b1 b3 b4 bx v ws w w1) (hC:Kd.C Kd.string w1 A ys.length ys) (hl:ws.length+ys.length≤1000000):
    Calls Try.prog 37 #[.slice A ys.length c,.pointer (some ⟨b3,0,none⟩)] w1 fun e w2=>e=.returned (.tuple #[])∧∃ v1,SIAt b1 b3 b4 bx v1 (ws++ys) w w2:=by
  obtain ⟨A0,c0,e0⟩:=Kd.R_slice h.row
  subst e0
  have HX:=aM h
  have HC:=aM hC
  have z0:=blk_cell h.var 0
  clear h hC
  go_enter Try.func37,Try.ntmps37
  go_wp2_with (first | ((with_reducible refine gate_builtin (b:=.append) (xs:=#[.tmp 3,.tmp 4]) rfl ?_);at_builtin;refine Kd.R_append_rows Kd.string (Rr:=fun x cs=>cs=[.string x]) w.heap.size rfl (.tmp 3) (.tmp 4) 56 9 (.string ⟨#[]⟩) 16 rfl Try.underlying56 (by kernel_rfl) rfl (by decide) (by omega) (.slice A0 ws.length c0) ws ys A ys.length c (fun _=>True) (fun k=>True∧some k≠(Value.slice A0 ws.length c0).ownBlock) rfl rfl HX.out.row HC.out (fun x cs e=>e) (fun k hk=>⟨trivial,hk.2⟩) (fun k hk=>trivial) (Below.refl _ _) (below_size HX.out.bel) (by omega) ?_;intro v1 w4_ hr4 hb4 hg4 hv4;obtain ⟨A6,c6,e6⟩:=Kd.R_slice hr4;rw [List.length_append] at e6;subst e6;have HX9:=aM (HX.out.put hr4 hg4);have B4:=(hg4.block b3 (blk_lt HX.out.var) (Kd.R_ne HX.out.row HX.out.var (by decide))).trans HX.out.var;have c4_:=blk_cell B4 0;have f4_:=blk_frozen B4 0;clear hr4 hb4 hg4 hv4 B4))
  (first | go_end0 | ((try simp only [Exit.inBlock,Exit.then]);refine bodyPost_ret (results_none rfl _ _ _) rfl ?_))
  exact ⟨rfl,_,HX9.out⟩
theorem args_calls (m:Nat) (mi:Int) (hmi:mi=(m:Int)) (b1 b3 b4:Nat) (op id n ty:Int) (A4:Option Addr) (c4:Nat) (l4:List Int) (A5:Option Addr) (c5:Nat) (l5:List Int) (nm:ByteArray) (at_:Int) (v:Value) (ws r:List ByteArray) (w w1:World) (h:SIAt b1 b3 b4 #[.int .i64 op,.int .i64 id,.int .i64 n,.int .i64 ty,.slice A4 l4.length c4,.slice A5 l5.length c5,.string nm,.int .i64 at_] v ws w w1) (h4:Kd.C (Kd.int .i64) w A4 l4.length l4) (h4':l4.length≤c4) (hm:m≤l4.length) (hv:valsW (l4.drop m)=some r) (hl:ws.length+r.length≤1000000):
    Calls Try.prog 38 #[.int .i64 mi,.pointer (some ⟨b1,0,none⟩),.pointer (some ⟨b4,0,none⟩)] w1 fun e w2=>e=.returned (.tuple #[])∧∃ v1,SIAt b1 b3 b4 #[.int .i64 op,.int .i64 id,.int .i64 n,.int .i64 ty,.slice A4 l4.length c4,.slice A5 l5.length c5,.string nm,.int .i64 at_] v1 (ws++r) w w2:=by
  subst hmi
  have hu39:=Try.underlying39
  have hd:=Kd.C_drop (m:=m) (c:=c4) h4 hm h4'
  obtain ⟨A',hA⟩:∃ A',(if c4=m then A4 else A4.map (·.add (m * (Kd.int .i64).sz)))=A':=⟨_,rfl⟩
  rw [hA] at hd
  have hrun:∀ W,(Instr.slice 31 (.slice A4 l4.length c4) (some (.int .i64 (m:Int))) none none).run Try.prog W=.ok (.slice A' (l4.drop m).length (c4 - m)) W:=fun W=>by
    have e:=run_slice_l (P:=Try.prog) (w:=W) (t:=31) (a:=A4) (len:=l4.length) (cap:=c4) (ht:=by rfl) (kl:=.i64) (l:=(m:Int)) (h0:=by omega) (h1:=by omega)
    rw [e,← hA,List.length_drop]
    rfl
  have HD:=aM hd
  have HV:=aM hv
  have HX:=aM h
  have HL:=aM (Kd.C_max hd)
  have z4:=blk_cell h.box 4
  have hlen:(l4.drop m).length=l4.length - m:=List.length_drop ..
  generalize l4.drop m=xs at HD HV HL hrun hlen
  clear hd hv h hA hlen
  go_enter Try.func38,Try.ntmps38
  go_wp2
  (try simp only [Act.put,qA,qB,qC])
  clear z4 hrun
  go_loopg [11] xs.length (fun kq v11 w'=>∃ (j:Int) (v1:Value) (acc:List ByteArray),v11=.int .i64 j∧Aside0 (0≤j∧j≤(xs.length:Int))∧Aside0 (∃ rest,valsW (xs.drop j.toNat)=some rest∧acc++rest=ws++r)∧Aside0 (SIAt b1 b3 b4 #[.int .i64 op,.int .i64 id,.int .i64 n,.int .i64 ty,.slice A4 l4.length c4,.slice A5 l5.length c5,.string nm,.int .i64 at_] v1 acc w w')∧Aside0 (kq=xs.length - j.toNat))
  case atStart=>exact ⟨0,_,ws,rfl,⟨by omega⟩,⟨r,HV.out,rfl⟩,⟨HX.out⟩,⟨rfl⟩⟩
  case round=>
    clear HX HV
    obtain ⟨j,v1,acc,rfl,HJ,HV,HX,HK⟩:=hrel
    obtain ⟨rest,hr,hac⟩:=HV.out
    have hal:=congrArg List.length hac
    rw [List.length_append,List.length_append] at hal
    by_cases hj:j<(xs.length:Int)
    · have dj:decide (j<(xs.length:Int))=true:=decide_eq_true hj
      rw [drop_cons xs j 0 HJ.out.1 hj] at hr
      obtain ⟨y,hy,hr⟩:=Option.bind_eq_some_iff.mp hr
      obtain ⟨rest2,hr2,hr⟩:=Option.bind_eq_some_iff.mp hr
      obtain rfl:=Option.some.inj hr
      obtain ⟨ad1,e1,hx1⟩:=Kd.at_int (Kd.C_below HD.out HX.out.bel) j HJ.out.1 hj
      subst e1
      have hrd:rd xs j=xs.getD j.toNat 0:=rfl
      rw [← hrd] at hy
      clear hrd hr
      generalize rd xs j=t at hy hx1
      have pj:=eq_true HJ.out.1
      have qj:=eq_true hj
      have HJ2:=aM hj
      have HY:=aM hy
      have HR2:=aM hr2
      have HAC:=aM hac
      have HAL:=aM (show acc.length+1≤1000000 by simp at hal;omega)
      clear hj hy hr2 hac hal HV
      go_upto_region 3 with (fail)
      have HXd:=aM (HX.out.below (below_drew1 (Below.refl _ _)))
      clear hx1 pj qj dj HX
      refine start_ (n:=5) (S:=fun w'=>w'.cell? ⟨b4,0,none⟩=some (.func (.func 37) #[] #[.pointer (some ⟨b3,0,none⟩)])) (ds:=[]) #[false,false,false,false,false] (by kernel_rfl) rfl rfl ((blk_cell HXd.out.fn 0)) (fun hHeld=>?_)
      refine pure_ (i:=1) (N:=some 16) (v:=?_) (a':=?_) #[false,true,false,false,false] rfl rfl (by kernel_rfl) (fun _ _ _ h=>h) (Or.inl ⟨by rfl,?_⟩) ?_ ?_
      rotate_left
      · intro w'
        go_simp
        with_reducible rfl
      rotate_left
      · simp only [Act.put,qA,qB,qC,i64_w,i32_w]
        rfl
      refine take_ (i:=0) (N:=some 15) (v:=?_) (a':=?_) #[true,true,false,false,false] rfl rfl (by kernel_rfl) (fun _ _ _ h=>h) (Or.inl ⟨by rfl,?_⟩) hHeld ?_ ?_
      rotate_left
      · intro w' s0
        go_simp
        with_reducible rfl
      rotate_left
      · simp only [Act.put,qA,qB,qC,i64_w,i32_w]
        rfl
      refine one_ (i:=2) (N:=some 17) #[true,true,true,false,false] rfl rfl (by kernel_rfl) (by decide) (fun K hK=>?_)
      refine goes_ Try.func39 (by kernel_rfl) rfl #[.int .i64 t] (by rfl) rfl rfl (by simp only [List.map_toArray,List.map_cons,List.map_nil];rfl) ?_
      with_reducible refine (show_value.calls t y _ HY.out).mono ?_
      rintro e wq1 ⟨rfl,hb_⟩
      refine ⟨_,rfl,?_⟩
      have HY1:=aM (HXd.out.below hb_)
      clear hb_
      refine hK.out _ _ ((blk_cell HY1.out.fn 0)) (fun hHeld=>?_)
      clear hK K
      refine norm_ (a':=?_) ?_ ?_
      rotate_left
      · show Act.put _ (some 17) _=_
        simp only [Act.put,qA,qB,qC,i64_w,i32_w]
        rfl
      refine one_ (i:=3) (N:=some 18) #[true,true,true,true,false] rfl rfl (by kernel_rfl) (by decide) (fun K hK=>?_)
      refine value_ (w1:=?_) (v:=?_) (by rfl) rfl ?_ ?_
      rotate_left 2
      · go_simp
        constructor
        · rfl
        · rfl
      have HY2:=aM (HY1.out.below (below_alloc (Below.refl _ _) (.cells #[.string y] 9)))
      have HC_:=aM (str_row (ys:=[y]) (blk_new wq1 (.cells #[.string y] 9)) (by simp))
      refine hK.out _ _ ((blk_cell HY2.out.fn 0)) (fun hHeld=>?_)
      clear hK K
      refine norm_ (a':=?_) ?_ ?_
      rotate_left
      · show Act.put _ (some 18) _=_
        simp only [Act.put,qA,qB,qC,i64_w,i32_w]
        rfl
      refine one_ (i:=4) (N:=some 19) #[true,true,true,true,true] rfl rfl (by kernel_rfl) (by decide) (fun K hK=>?_)
      refine goesV_ Try.func37 (by kernel_rfl) rfl #[.pointer (some ⟨b3,0,none⟩)] #[.slice (some ⟨wq1.heap.size,0,none⟩) 1 1,.pointer (some ⟨b3,0,none⟩)] (by rfl) rfl rfl rfl (by simp only [List.map_toArray,List.map_cons,List.map_nil];rfl) ?_
      refine (put_calls b1 b3 b4 _ _ acc [y] _ 1 _ _ HY2.out HC_.out (HAL.out)).mono ?_
      rintro e wq3 ⟨rfl,v1,hx_⟩
      refine ⟨_,rfl,?_⟩
      have HY3:=aM hx_
      clear hx_
      refine hK.out _ _ ((blk_cell HY3.out.fn 0)) (fun hHeld=>?_)
      clear hK K
      refine norm_ (a':=?_) ?_ ?_
      rotate_left
      · show Act.put _ (some 19) _=_
        simp only [Act.put,qA,qB,qC,i64_w,i32_w]
        rfl
      refine done_ (by kernel_rfl) ?_
      clear hHeld
      go_wp2_with fail
      go_roundg (xs.length - (j+1).toNat)
      case measure=>have:=HK.out;have:=HJ.out;have:=HJ2.out;omega
      case rel=>exact ⟨j+1,_,acc++[y],by rw [show wrap64 (j+1)=j+1 from w64 (by have:=HJ.out;omega) (by have:=HJ2.out;have:=HL.out;omega)],⟨by have:=HJ.out;have:=HJ2.out;omega⟩,⟨rest2,HR2.out,by rw [← HAC.out];simp⟩,⟨HY3.out⟩,⟨rfl⟩⟩
    · have dj:decide (j<(xs.length:Int))=false:=decide_eq_false hj
      rw [drop_none _ _ hj] at hr
      obtain rfl:=Option.some.inj hr
      rw [List.append_nil] at hac
      have HAC:=aM hac
      clear hj hr hac hal
      go_wp2
      (first | go_end0 | ((try simp only [Exit.inBlock,Exit.then]);refine bodyPost_ret (results_none rfl _ _ _) rfl ?_))
      exact ⟨rfl,_,by rw [← HAC.out];exact HX.out⟩
theorem op_cases2 (op:Int):(op=1∨op=23∨op=29)∨op=10∨(op=11∨op=12∨op=15∨op=24∨op=13∨op=14)∨op=20∨op=21∨(op≠1∧op≠23∧op≠29∧op≠10∧op≠11∧op≠12∧op≠15∧op≠24∧op≠13∧op≠14∧op≠20∧op≠21):=by omega
theorem tail_none (op n:Int) (l4 l5:List Int) (nm:ByteArray) (h:op≠1∧op≠23∧op≠29∧op≠10∧op≠11∧op≠12∧op≠15∧op≠24∧op≠13∧op≠14∧op≠20∧op≠21):tailW op n l4 l5 nm=(valsW l4).bind fun r=>(labsW l5).bind fun q=>some (r++q):=by
  unfold tailW
  rw [if_neg (by simp [isOne, *]),if_neg (by simp [*]),if_neg (by simp [isOne, *]),if_neg (by simp [*]),if_neg (by simp [*])]
theorem tail_mem (op n:Int) (l4 l5:List Int) (nm:ByteArray) (tw:List ByteArray) (h1:isOne op [1,23,29]=false∧op≠10) (h2:isOne op [11,12,15,24,13,14]=true) (h:tailW op n l4 l5 nm=some tw):
    0<l4.length∧∃ y d r,show_value.f (rd l4 0)=some y∧digits_Print.f n=some d∧valsW (l4.drop 1)=some r∧tw=y::d::r:=by
  unfold tailW at h
  rw [if_neg (by rw [h1.1];decide),if_neg h1.2,if_pos h2] at h
  cases l4 with
  | nil=>simp at h
  | cons a l=>
    obtain ⟨y,hy,h⟩:=Option.bind_eq_some_iff.mp h
    obtain ⟨d,hd,h⟩:=Option.bind_eq_some_iff.mp h
    obtain ⟨r,hr,h⟩:=Option.bind_eq_some_iff.mp h
    obtain rfl:=Option.some.inj h
    exact ⟨by simp,y,d,r,hy,hd,hr,rfl⟩
theorem show_Instr.calls (op id n ty:Int) (A4:Option Addr) (c4:Nat) (l4:List Int) (A5:Option Addr) (c5:Nat) (l5:List Int) (nm:ByteArray) (at_:Int) (r:ByteArray) (w:World) (h4:Kd.C (Kd.int .i64) w A4 l4.length l4) (h4':l4.length≤c4) (h5:Kd.C (Kd.int .i64) w A5 l5.length l5) (h5':l5.length≤c5) (h:show_Instr.f op id n ty l4 l5 nm at_=some r):
    Calls Try.prog 13 #[.agg #[.int .i64 op,.int .i64 id,.int .i64 n,.int .i64 ty,.slice A4 l4.length c4,.slice A5 l5.length c5,.string nm,.int .i64 at_]] w fun e w'=>e=.returned (.string r)∧Below w.heap.size w w':=by
  have hu39:=Try.underlying39
  have hmf:∀ (fn:Fn) (first cap:Array Value) (w:World),(Instr.makeFunc fn first cap).run Try.prog w=.ok (.func fn first cap) w:=fun _ _ _ _=>rfl
  unfold show_Instr.f at h
  obtain ⟨hw,hhw,h⟩:=Option.bind_eq_some_iff.mp h
  obtain ⟨tw,htw,h⟩:=Option.bind_eq_some_iff.mp h
  by_cases hlen:(hw++mk (wordL op ty)::tw).length≤1000000
  rotate_left
  · rw [if_neg hlen] at h
    cases h
  rw [if_pos hlen] at h
  have HLEN:=aM (show hw.length+1+tw.length≤1000000 by rw [List.length_append,List.length_cons] at hlen;omega)
  have HF:=aM h
  have HW:=aM hhw
  have HT:=aM htw
  have H4:=aM h4
  have H5:=aM h5
  have H6:=aM (And.intro h4' h5')
  have H7:=aM (And.intro (Kd.C_max h4) (Kd.C_max h5))
  clear h hhw htw hlen h4 h5 h4' h5'
  go_enter Try.func13,Try.ntmps13
  go_upto_region 4 with (fail)
  have s1:(w.alloc (.cells #[.int .i64 op,.int .i64 id,.int .i64 n,.int .i64 ty,.slice A4 l4.length c4,.slice A5 l5.length c5,.string nm,.int .i64 at_] 39)).heap.size=w.heap.size+1:=by simp
  have s2:((w.alloc (.cells #[.int .i64 op,.int .i64 id,.int .i64 n,.int .i64 ty,.slice A4 l4.length c4,.slice A5 l5.length c5,.string nm,.int .i64 at_] 39)).alloc (.cells #[.slice none 0 0] 56)).heap.size=w.heap.size+1+1:=by simp
  have k3:=blk_new (w.alloc (.cells #[.int .i64 op,.int .i64 id,.int .i64 n,.int .i64 ty,.slice A4 l4.length c4,.slice A5 l5.length c5,.string nm,.int .i64 at_] 39)) (.cells #[.slice none 0 0] 56)
  rw [s1] at k3
  have k4:=blk_new ((w.alloc (.cells #[.int .i64 op,.int .i64 id,.int .i64 n,.int .i64 ty,.slice A4 l4.length c4,.slice A5 l5.length c5,.string nm,.int .i64 at_] 39)).alloc (.cells #[.slice none 0 0] 56)) (.cells #[.func (.func 37) #[] #[.pointer (some ⟨w.heap.size+1,0,none⟩)]] 63)
  rw [s2] at k4
  have HX:=aM (show SIAt w.heap.size (w.heap.size+1) (w.heap.size+1+1) #[.int .i64 op,.int .i64 id,.int .i64 n,.int .i64 ty,.slice A4 l4.length c4,.slice A5 l5.length c5,.string nm,.int .i64 at_] (.slice none 0 0) [] w (((w.alloc (.cells #[.int .i64 op,.int .i64 id,.int .i64 n,.int .i64 ty,.slice A4 l4.length c4,.slice A5 l5.length c5,.string nm,.int .i64 at_] 39)).alloc (.cells #[.slice none 0 0] 56)).alloc (.cells #[.func (.func 37) #[] #[.pointer (some ⟨w.heap.size+1,0,none⟩)]] 63)) from
    ⟨blk_alloc (blk_alloc (blk_new _ _) _) _,blk_alloc k3 _,k4,Kd.R_nil _ _ _ _ _,Nat.le_succ _,below_alloc (below_alloc (below_alloc (Below.refl _ _) _) _) _⟩)
  clear s1 s2 k3 k4
  generalize (((w.alloc (.cells #[.int .i64 op,.int .i64 id,.int .i64 n,.int .i64 ty,.slice A4 l4.length c4,.slice A5 l5.length c5,.string nm,.int .i64 at_] 39)).alloc (.cells #[.slice none 0 0] 56)).alloc (.cells #[.func (.func 37) #[] #[.pointer (some ⟨w.heap.size+1,0,none⟩)]] 63))=W0 at HX ⊢
  generalize w.heap.size+1+1=b4 at HX ⊢
  generalize w.heap.size+1=b3 at HX ⊢
  have HB1:=aM (show ∃ b,b=w.heap.size from ⟨_,rfl⟩)
  generalize hb1:w.heap.size=b1 at HX ⊢
  clear hb1 HB1
  have z0:=blk_cell HX.out.box 0
  have z1:=blk_cell HX.out.box 1
  have z2:=blk_cell HX.out.box 2
  have z3:=blk_cell HX.out.box 3
  have z4:=blk_cell HX.out.box 4
  have z5:=blk_cell HX.out.box 5
  have z6:=blk_cell HX.out.box 6
  have z7:=blk_cell HX.out.box 7
  go_wp2_with fail
  refine (ops_makes_c op id n ty A4 c4 l4 A5 c5 l5 nm at_ _ (Kd.C_below H4.out HX.out.bel) H6.out.1 (Kd.C_below H5.out HX.out.bel) H6.out.2).mono ?_
  rintro e w2 ⟨rfl,hb_⟩
  have HX1:=aM (HX.out.below hb_)
  clear hb_ HX z0 z1 z2 z3 z4 z5 z6 z7
  go_upto_if 14 with (fail)
  (try simp only [Act.put,qA,qB,qC])
  go_cut [] (fun wc=>∃ v,Aside0 (SIAt b1 b3 b4 #[.int .i64 op,.int .i64 id,.int .i64 n,.int .i64 ty,.slice A4 l4.length c4,.slice A5 l5.length c5,.string nm,.int .i64 at_] v hw w wc))
  case first=>
    have hh:=HW.out
    unfold headW at hh
    by_cases hm:makesI op ty=0
    · rw [if_pos hm] at hh
      obtain rfl:=Option.some.inj hh
      have g:(makesI op ty !=0)=false:=bne_eq_false_iff_eq.mpr hm
      (try rw [g])
      clear hm hh
      go_wp2_with fail
      go_meet
      exact ⟨_,HX1⟩
    · rw [if_neg hm] at hh
      obtain ⟨y,hy,hh⟩:=Option.bind_eq_some_iff.mp hh
      obtain rfl:=Option.some.inj hh
      have g:(makesI op ty !=0)=true:=bne_iff_ne.mpr hm
      have HY:=aM hy
      (try rw [g])
      clear hm hh hy
      go_upto_region 5 with (fail)
      have HXd:=aM (HX1.out.below (below_drew1 (Below.refl _ _)))
      refine start_ (n:=6) (S:=fun w'=>w'.cell? ⟨b4,0,none⟩=some (.func (.func 37) #[] #[.pointer (some ⟨b3,0,none⟩)])∧w'.cell? ⟨b1,1,none⟩=some (.int .i64 id)) (ds:=[]) #[false,false,false,false,false,false] (by kernel_rfl) rfl rfl ⟨(blk_cell HXd.out.fn 0),(blk_cell HXd.out.box 1)⟩ (fun hHeld=>?_)
      refine pure_ (i:=1) (N:=some 16) (v:=?_) (a':=?_) #[false,true,false,false,false,false] rfl rfl (by kernel_rfl) (fun _ _ _ h=>h) (Or.inl ⟨by rfl,?_⟩) ?_ ?_
      rotate_left
      · intro w'
        go_simp
        with_reducible rfl
      rotate_left
      · simp only [Act.put,qA,qB,qC,i64_w,i32_w]
        rfl
      refine take_ (i:=0) (N:=some 15) (v:=?_) (a':=?_) #[true,true,false,false,false,false] rfl rfl (by kernel_rfl) (fun _ _ _ h=>h) (Or.inl ⟨by rfl,?_⟩) hHeld ?_ ?_
      rotate_left
      · rintro w' ⟨s0,s1⟩
        go_simp
        with_reducible rfl
      rotate_left
      · simp only [Act.put,qA,qB,qC,i64_w,i32_w]
        rfl
      refine take_ (i:=2) (N:=some 17) (v:=?_) (a':=?_) #[true,true,true,false,false,false] rfl rfl (by kernel_rfl) (fun _ _ _ h=>h) (Or.inl ⟨by rfl,?_⟩) hHeld ?_ ?_
      rotate_left
      · rintro w' ⟨s0,s1⟩
        go_simp
        with_reducible rfl
      rotate_left
      · simp only [Act.put,qA,qB,qC,i64_w,i32_w]
        rfl
      refine one_ (i:=3) (N:=some 18) #[true,true,true,true,false,false] rfl rfl (by kernel_rfl) (by decide) (fun K hK=>?_)
      refine goes_ Try.func39 (by kernel_rfl) rfl #[.int .i64 id] (by rfl) rfl rfl (by simp only [List.map_toArray,List.map_cons,List.map_nil];rfl) ?_
      with_reducible refine (show_value.calls id y _ HY.out).mono ?_
      rintro e wq1 ⟨rfl,hb_⟩
      refine ⟨_,rfl,?_⟩
      have HY1:=aM (HXd.out.below hb_)
      clear hb_
      refine hK.out _ _ ⟨(blk_cell HY1.out.fn 0),(blk_cell HY1.out.box 1)⟩ (fun hHeld=>?_)
      clear hK K
      refine norm_ (a':=?_) ?_ ?_
      rotate_left
      · show Act.put _ (some 18) _=_
        simp only [Act.put,qA,qB,qC,i64_w,i32_w]
        rfl
      refine one_ (i:=4) (N:=some 19) #[true,true,true,true,true,false] rfl rfl (by kernel_rfl) (by decide) (fun K hK=>?_)
      refine value_ (w1:=?_) (v:=?_) (by rfl) rfl ?_ ?_
      rotate_left 2
      · go_simp
        constructor
        · rfl
        · rfl
      have HY2:=aM (HY1.out.below (below_alloc (Below.refl _ _) (.cells #[.string y,.string (⟨#[61]⟩:ByteArray)] 9)))
      have HC_:=aM (str_row (ys:=[y,(⟨#[61]⟩:ByteArray)]) (blk_new wq1 (.cells #[.string y,.string (⟨#[61]⟩:ByteArray)] 9)) (by simp))
      refine hK.out _ _ ⟨(blk_cell HY2.out.fn 0),(blk_cell HY2.out.box 1)⟩ (fun hHeld=>?_)
      clear hK K
      refine norm_ (a':=?_) ?_ ?_
      rotate_left
      · show Act.put _ (some 19) _=_
        simp only [Act.put,qA,qB,qC,i64_w,i32_w]
        rfl
      refine one_ (i:=5) (N:=some 20) #[true,true,true,true,true,true] rfl rfl (by kernel_rfl) (by decide) (fun K hK=>?_)
      refine goesV_ Try.func37 (by kernel_rfl) rfl #[.pointer (some ⟨b3,0,none⟩)] #[.slice (some ⟨wq1.heap.size,0,none⟩) 2 2,.pointer (some ⟨b3,0,none⟩)] (by rfl) rfl rfl rfl (by simp only [List.map_toArray,List.map_cons,List.map_nil];rfl) ?_
      refine (put_calls b1 b3 b4 _ _ [] [y,(⟨#[61]⟩:ByteArray)] _ 2 _ _ HY2.out HC_.out (by simp)).mono ?_
      rintro e wq3 ⟨rfl,v1,hx_⟩
      refine ⟨_,rfl,?_⟩
      have HY3:=aM hx_
      clear hx_
      refine hK.out _ _ ⟨(blk_cell HY3.out.fn 0),(blk_cell HY3.out.box 1)⟩ (fun hHeld=>?_)
      clear hK K
      refine norm_ (a':=?_) ?_ ?_
      rotate_left
      · show Act.put _ (some 20) _=_
        simp only [Act.put,qA,qB,qC,i64_w,i32_w]
        rfl
      refine done_ (by kernel_rfl) ?_
      clear hHeld
      (try go_wp2)
      go_meet
      exact ⟨_,HY3⟩
  case rest=>
    clear HX1 HW
    obtain ⟨v,HX⟩:=hcut
    go_upto_region 6 with (fail)
    have HXd:=aM (HX.out.below (below_drew1 (Below.refl _ _)))
    clear HX
    refine start_ (n:=5) (S:=fun w'=>w'.cell? ⟨b4,0,none⟩=some (.func (.func 37) #[] #[.pointer (some ⟨b3,0,none⟩)])∧w'.cell? ⟨b1,0,none⟩=some (.int .i64 op)∧w'.cell? ⟨b1,1,none⟩=some (.int .i64 id)∧w'.cell? ⟨b1,2,none⟩=some (.int .i64 n)∧w'.cell? ⟨b1,3,none⟩=some (.int .i64 ty)∧w'.cell? ⟨b1,4,none⟩=some (.slice A4 l4.length c4)∧w'.cell? ⟨b1,5,none⟩=some (.slice A5 l5.length c5)∧w'.cell? ⟨b1,6,none⟩=some (.string nm)∧w'.cell? ⟨b1,7,none⟩=some (.int .i64 at_)) (ds:=[]) #[false,false,false,false,false] (by kernel_rfl) rfl rfl ⟨(blk_cell HXd.out.fn 0),(blk_cell HXd.out.box 0),(blk_cell HXd.out.box 1),(blk_cell HXd.out.box 2),(blk_cell HXd.out.box 3),(blk_cell HXd.out.box 4),(blk_cell HXd.out.box 5),(blk_cell HXd.out.box 6),(blk_cell HXd.out.box 7)⟩ (fun hHeld=>?_)
    refine take_ (i:=0) (N:=some 21) (v:=?_) (a':=?_) #[true,false,false,false,false] rfl rfl (by kernel_rfl) (fun _ _ _ h=>h) (Or.inl ⟨by rfl,?_⟩) hHeld ?_ ?_
    rotate_left
    · rintro w' ⟨s0,s1,s2,s3,s4,s5,s6,s7,s8⟩
      go_simp
      with_reducible rfl
    rotate_left
    · simp only [Act.put,qA,qB,qC,i64_w,i32_w]
      rfl
    refine take_ (i:=1) (N:=some 22) (v:=?_) (a':=?_) #[true,true,false,false,false] rfl rfl (by kernel_rfl) (fun _ _ _ h=>h) (Or.inl ⟨by rfl,?_⟩) hHeld ?_ ?_
    rotate_left
    · rintro w' ⟨s0,s1,s2,s3,s4,s5,s6,s7,s8⟩
      go_simp
      with_reducible rfl
    rotate_left
    · simp only [Act.put,qA,qB,qC,i64_w,i32_w]
      rfl
    refine one_ (i:=2) (N:=some 23) #[true,true,true,false,false] rfl rfl (by kernel_rfl) (by decide) (fun K hK=>?_)
    refine goes_ Try.func41 (by kernel_rfl) rfl #[.agg #[.int .i64 op,.int .i64 id,.int .i64 n,.int .i64 ty,.slice A4 l4.length c4,.slice A5 l5.length c5,.string nm,.int .i64 at_]] (by rfl) rfl rfl (by simp only [List.map_toArray,List.map_cons,List.map_nil];rfl) ?_
    with_reducible refine (ops_word_c op id n ty A4 c4 l4 A5 c5 l5 nm at_ _ (Kd.C_below H4.out HXd.out.bel) H6.out.1 (Kd.C_below H5.out HXd.out.bel) H6.out.2).mono ?_
    rintro e wq1 ⟨rfl,hb_⟩
    refine ⟨_,rfl,?_⟩
    have HY1:=aM (HXd.out.below hb_)
    clear hb_
    refine hK.out _ _ ⟨(blk_cell HY1.out.fn 0),(blk_cell HY1.out.box 0),(blk_cell HY1.out.box 1),(blk_cell HY1.out.box 2),(blk_cell HY1.out.box 3),(blk_cell HY1.out.box 4),(blk_cell HY1.out.box 5),(blk_cell HY1.out.box 6),(blk_cell HY1.out.box 7)⟩ (fun hHeld=>?_)
    clear hK K
    refine norm_ (a':=?_) ?_ ?_
    rotate_left
    · show Act.put _ (some 23) _=_
      simp only [Act.put,qA,qB,qC,i64_w,i32_w]
      rfl
    refine one_ (i:=3) (N:=some 24) #[true,true,true,true,false] rfl rfl (by kernel_rfl) (by decide) (fun K hK=>?_)
    refine value_ (w1:=?_) (v:=?_) (by rfl) rfl ?_ ?_
    rotate_left 2
    · go_simp
      constructor
      · rfl
      · rfl
    have HY2:=aM (HY1.out.below (below_alloc (Below.refl _ _) (.cells #[.string (mk (wordL op ty))] 9)))
    have HC_:=aM (str_row (ys:=[(mk (wordL op ty))]) (blk_new wq1 (.cells #[.string (mk (wordL op ty))] 9)) (by simp))
    refine hK.out _ _ ⟨(blk_cell HY2.out.fn 0),(blk_cell HY2.out.box 0),(blk_cell HY2.out.box 1),(blk_cell HY2.out.box 2),(blk_cell HY2.out.box 3),(blk_cell HY2.out.box 4),(blk_cell HY2.out.box 5),(blk_cell HY2.out.box 6),(blk_cell HY2.out.box 7)⟩ (fun hHeld=>?_)
    clear hK K
    refine norm_ (a':=?_) ?_ ?_
    rotate_left
    · show Act.put _ (some 24) _=_
      simp only [Act.put,qA,qB,qC,i64_w,i32_w]
      rfl
    refine one_ (i:=4) (N:=some 25) #[true,true,true,true,true] rfl rfl (by kernel_rfl) (by decide) (fun K hK=>?_)
    refine goesV_ Try.func37 (by kernel_rfl) rfl #[.pointer (some ⟨b3,0,none⟩)] #[.slice (some ⟨wq1.heap.size,0,none⟩) 1 1,.pointer (some ⟨b3,0,none⟩)] (by rfl) rfl rfl rfl (by simp only [List.map_toArray,List.map_cons,List.map_nil];rfl) ?_
    refine (put_calls b1 b3 b4 _ _ hw [(mk (wordL op ty))] _ 1 _ _ HY2.out HC_.out (by have:=HLEN.out;simp;omega)).mono ?_
    rintro e wq3 ⟨rfl,v1,hx_⟩
    refine ⟨_,rfl,?_⟩
    have HY3:=aM hx_
    clear hx_
    refine hK.out _ _ ⟨(blk_cell HY3.out.fn 0),(blk_cell HY3.out.box 0),(blk_cell HY3.out.box 1),(blk_cell HY3.out.box 2),(blk_cell HY3.out.box 3),(blk_cell HY3.out.box 4),(blk_cell HY3.out.box 5),(blk_cell HY3.out.box 6),(blk_cell HY3.out.box 7)⟩ (fun hHeld=>?_)
    clear hK K
    refine norm_ (a':=?_) ?_ ?_
    rotate_left
    · show Act.put _ (some 25) _=_
      simp only [Act.put,qA,qB,qC,i64_w,i32_w]
      rfl
    refine done_ (by kernel_rfl) ?_
    clear hHeld
    have HX:=HY3
    clear HXd HY1 HY2 HY3
    have z0:=blk_cell HX.out.box 0
    go_upto_block 0 with (fail)
    (try simp only [Act.put,qA,qB,qC])
    clear z0
    go_cut [] (fun wc=>∃ v,Aside0 (SIAt b1 b3 b4 #[.int .i64 op,.int .i64 id,.int .i64 n,.int .i64 ty,.slice A4 l4.length c4,.slice A5 l5.length c5,.string nm,.int .i64 at_] v (hw++mk (wordL op ty)::tw) w wc))
    case first=>
      have ht:=HT.out
      clear HF HT
      obtain ⟨acc,hacc⟩:∃ acc,hw++[mk (wordL op ty)]=acc:=⟨_,rfl⟩
      have HACC:=aM (show hw++mk (wordL op ty)::tw=acc++tw by rw [← hacc];simp)
      have HAL:=aM (show acc.length+tw.length≤1000000 by rw [← hacc];have:=HLEN.out;simp;omega)
      have hx:=HX.out
      rw [hacc] at hx
      have HX:=aM hx
      clear hx hacc HLEN
      rcases op_cases2 op with h1 | h1 | h1 | h1 | h1 | h1
      · rcases h1 with rfl | rfl | rfl
        all_goals
          unfold tailW at ht
          rw [if_pos (by decide)] at ht
          obtain ⟨d,hd,ht⟩:=Option.bind_eq_some_iff.mp ht
          obtain rfl:=Option.some.inj ht
          have HD:=aM hd
          clear hd ht
          go_upto_region 17 with (fail)
          have HXd:=aM (HX.out.below (below_drew1 (Below.refl _ _)))
          refine start_ (n:=6) (S:=fun w'=>w'.cell? ⟨b4,0,none⟩=some (.func (.func 37) #[] #[.pointer (some ⟨b3,0,none⟩)])∧w'.cell? ⟨b1,2,none⟩=some (.int .i64 n)) (ds:=[]) #[false,false,false,false,false,false] (by kernel_rfl) rfl rfl ⟨(blk_cell HXd.out.fn 0),(blk_cell HXd.out.box 2)⟩ (fun hHeld=>?_)
          refine pure_ (i:=1) (N:=some 48) (v:=?_) (a':=?_) #[false,true,false,false,false,false] rfl rfl (by kernel_rfl) (fun _ _ _ h=>h) (Or.inl ⟨by rfl,?_⟩) ?_ ?_
          rotate_left
          · intro w'
            go_simp
            with_reducible rfl
          rotate_left
          · simp only [Act.put,qA,qB,qC,i64_w,i32_w]
            rfl
          refine take_ (i:=0) (N:=some 47) (v:=?_) (a':=?_) #[true,true,false,false,false,false] rfl rfl (by kernel_rfl) (fun _ _ _ h=>h) (Or.inl ⟨by rfl,?_⟩) hHeld ?_ ?_
          rotate_left
          · rintro w' ⟨s0,s1⟩
            go_simp
            with_reducible rfl
          rotate_left
          · simp only [Act.put,qA,qB,qC,i64_w,i32_w]
            rfl
          refine take_ (i:=2) (N:=some 49) (v:=?_) (a':=?_) #[true,true,true,false,false,false] rfl rfl (by kernel_rfl) (fun _ _ _ h=>h) (Or.inl ⟨by rfl,?_⟩) hHeld ?_ ?_
          rotate_left
          · rintro w' ⟨s0,s1⟩
            go_simp
            with_reducible rfl
          rotate_left
          · simp only [Act.put,qA,qB,qC,i64_w,i32_w]
            rfl
          refine one_ (i:=3) (N:=some 50) #[true,true,true,true,false,false] rfl rfl (by kernel_rfl) (by decide) (fun K hK=>?_)
          refine goes_ Try.func42 (by kernel_rfl) rfl #[.int .i64 n] (by rfl) rfl rfl (by simp only [List.map_toArray,List.map_cons,List.map_nil];rfl) ?_
          with_reducible refine (digits_Print.calls n d _ HD.out).mono ?_
          rintro e wq1 ⟨rfl,hb_⟩
          refine ⟨_,rfl,?_⟩
          have HY1:=aM (HXd.out.below hb_)
          clear hb_
          refine hK.out _ _ ⟨(blk_cell HY1.out.fn 0),(blk_cell HY1.out.box 2)⟩ (fun hHeld=>?_)
          clear hK K
          refine norm_ (a':=?_) ?_ ?_
          rotate_left
          · show Act.put _ (some 50) _=_
            simp only [Act.put,qA,qB,qC,i64_w,i32_w]
            rfl
          refine one_ (i:=4) (N:=some 51) #[true,true,true,true,true,false] rfl rfl (by kernel_rfl) (by decide) (fun K hK=>?_)
          refine value_ (w1:=?_) (v:=?_) (by rfl) rfl ?_ ?_
          rotate_left 2
          · go_simp
            constructor
            · rfl
            · rfl
          have HY2:=aM (HY1.out.below (below_alloc (Below.refl _ _) (.cells #[.string d] 9)))
          have HC_:=aM (str_row (ys:=[d]) (blk_new wq1 (.cells #[.string d] 9)) (by simp))
          refine hK.out _ _ ⟨(blk_cell HY2.out.fn 0),(blk_cell HY2.out.box 2)⟩ (fun hHeld=>?_)
          clear hK K
          refine norm_ (a':=?_) ?_ ?_
          rotate_left
          · show Act.put _ (some 51) _=_
            simp only [Act.put,qA,qB,qC,i64_w,i32_w]
            rfl
          refine one_ (i:=5) (N:=some 52) #[true,true,true,true,true,true] rfl rfl (by kernel_rfl) (by decide) (fun K hK=>?_)
          refine goesV_ Try.func37 (by kernel_rfl) rfl #[.pointer (some ⟨b3,0,none⟩)] #[.slice (some ⟨wq1.heap.size,0,none⟩) 1 1,.pointer (some ⟨b3,0,none⟩)] (by rfl) rfl rfl rfl (by simp only [List.map_toArray,List.map_cons,List.map_nil];rfl) ?_
          refine (put_calls b1 b3 b4 _ _ acc [d] _ 1 _ _ HY2.out HC_.out (by have:=HAL.out;simp at this ⊢;omega)).mono ?_
          rintro e wq3 ⟨rfl,v1,hx_⟩
          refine ⟨_,rfl,?_⟩
          have HY3:=aM hx_
          clear hx_
          refine hK.out _ _ ⟨(blk_cell HY3.out.fn 0),(blk_cell HY3.out.box 2)⟩ (fun hHeld=>?_)
          clear hK K
          refine norm_ (a':=?_) ?_ ?_
          rotate_left
          · show Act.put _ (some 52) _=_
            simp only [Act.put,qA,qB,qC,i64_w,i32_w]
            rfl
          refine done_ (by kernel_rfl) ?_
          clear hHeld
          (try go_wp2)
          go_meet
          exact ⟨_,⟨by rw [HACC.out];exact HY3.out⟩⟩
      · subst h1
        unfold tailW at ht
        rw [if_neg (by decide),if_pos rfl] at ht
        obtain rfl:=Option.some.inj ht
        clear ht
        have z6:=blk_cell HX.out.box 6
        have zf:=blk_cell HX.out.fn 0
        have HXr:=aM (HX.out.below (below_alloc (Below.refl _ _) (.cells #[.string nm] 9)))
        have HC_:=aM (str_row (ys:=[nm]) (blk_new wq3 (.cells #[.string nm] 9)) (by simp))
        go_wp2_with fail
        refine (put_calls b1 b3 b4 _ _ acc [nm] _ 1 _ _ HXr.out HC_.out (by have:=HAL.out;simp at this ⊢;omega)).mono ?_
        rintro e wr1 ⟨rfl,v1,hx_⟩
        have HX2:=aM hx_
        clear hx_ z6 zf
        go_wp2_with fail
        go_meet
        exact ⟨_,⟨by rw [HACC.out];exact HX2.out⟩⟩
      · obtain ⟨hl0,y,d,r4,hy,hd,hr4,htw⟩:=tail_mem op n l4 l5 nm tw (by rcases h1 with rfl | rfl | rfl | rfl | rfl | rfl<;>decide) (by rcases h1 with rfl | rfl | rfl | rfl | rfl | rfl<;>decide) ht
        subst htw
        clear ht
        obtain ⟨ad1,e1,hx1⟩:=Kd.at_int H4.out 0 (Int.le_refl _) (by omega)
        subst e1
        rw [show ad1.add (0:Int).toNat=ad1 from by unfold Addr.add;rfl] at hx1
        have HX1:=aM hx1
        have HY:=aM hy
        have HD:=aM hd
        have HR4:=aM hr4
        have HL0:=aM hl0
        clear hx1 hy hd hr4
        rcases h1 with rfl | rfl | rfl | rfl | rfl | rfl
        all_goals
          have q0:((0:Int)<(l4.length:Int))=True:=eq_true (by have:=HL0.out;omega)
          have q1:(0<l4.length)=True:=eq_true HL0.out
          go_upto_region 26 with (fail)
          have HXd:=aM (HX.out.below (below_drew1 (Below.refl _ _)))
          refine start_ (n:=11) (S:=fun w'=>w'.cell? ⟨b4,0,none⟩=some (.func (.func 37) #[] #[.pointer (some ⟨b3,0,none⟩)])∧w'.cell? ⟨b1,2,none⟩=some (.int .i64 n)∧w'.cell? ⟨b1,4,none⟩=some (.slice (some ad1) l4.length c4)∧w'.cell? ad1=some (.int .i64 (rd l4 0))) (ds:=[]) #[false,false,false,false,false,false,false,false,false,false,false] (by kernel_rfl) rfl rfl ⟨(blk_cell HXd.out.fn 0),(blk_cell HXd.out.box 2),(blk_cell HXd.out.box 4),(pw_cell_below HXd.out.bel HX1.out)⟩ (fun hHeld=>?_)
          refine pure_ (i:=1) (N:=some 68) (v:=?_) (a':=?_) #[false,true,false,false,false,false,false,false,false,false,false] rfl rfl (by kernel_rfl) (fun _ _ _ h=>h) (Or.inl ⟨by rfl,?_⟩) ?_ ?_
          rotate_left
          · intro w'
            go_simp
            with_reducible rfl
          rotate_left
          · simp only [Act.put,qA,qB,qC,i64_w,i32_w]
            rfl
          refine pure_ (i:=6) (N:=some 73) (v:=?_) (a':=?_) #[false,true,false,false,false,false,true,false,false,false,false] rfl rfl (by kernel_rfl) (fun _ _ _ h=>h) (Or.inl ⟨by rfl,?_⟩) ?_ ?_
          rotate_left
          · intro w'
            go_simp
            with_reducible rfl
          rotate_left
          · simp only [Act.put,qA,qB,qC,i64_w,i32_w]
            rfl
          refine take_ (i:=0) (N:=some 67) (v:=?_) (a':=?_) #[true,true,false,false,false,false,true,false,false,false,false] rfl rfl (by kernel_rfl) (fun _ _ _ h=>h) (Or.inl ⟨by rfl,?_⟩) hHeld ?_ ?_
          rotate_left
          · rintro w' ⟨s0,s1,s2,s3⟩
            go_simp
            with_reducible rfl
          rotate_left
          · simp only [Act.put,qA,qB,qC,i64_w,i32_w]
            rfl
          refine take_ (i:=2) (N:=some 69) (v:=?_) (a':=?_) #[true,true,true,false,false,false,true,false,false,false,false] rfl rfl (by kernel_rfl) (fun _ _ _ h=>h) (Or.inl ⟨by rfl,?_⟩) hHeld ?_ ?_
          rotate_left
          · rintro w' ⟨s0,s1,s2,s3⟩
            go_simp
            with_reducible rfl
          rotate_left
          · simp only [Act.put,qA,qB,qC,i64_w,i32_w]
            rfl
          refine pure_ (i:=3) (N:=some 70) (v:=?_) (a':=?_) #[true,true,true,true,false,false,true,false,false,false,false] rfl rfl (by kernel_rfl) (fun _ _ _ h=>h) (Or.inl ⟨by rfl,?_⟩) ?_ ?_
          rotate_left
          · intro w'
            go_simp
            with_reducible rfl
          rotate_left
          · simp only [Act.put,qA,qB,qC,i64_w,i32_w]
            rfl
          refine take_ (i:=4) (N:=some 71) (v:=?_) (a':=?_) #[true,true,true,true,true,false,true,false,false,false,false] rfl rfl (by kernel_rfl) (fun _ _ _ h=>h) (Or.inl ⟨by rfl,?_⟩) hHeld ?_ ?_
          rotate_left
          · rintro w' ⟨s0,s1,s2,s3⟩
            go_simp
            with_reducible rfl
          rotate_left
          · simp only [Act.put,qA,qB,qC,i64_w,i32_w]
            rfl
          refine take_ (i:=7) (N:=some 74) (v:=?_) (a':=?_) #[true,true,true,true,true,false,true,true,false,false,false] rfl rfl (by kernel_rfl) (fun _ _ _ h=>h) (Or.inl ⟨by rfl,?_⟩) hHeld ?_ ?_
          rotate_left
          · rintro w' ⟨s0,s1,s2,s3⟩
            go_simp
            with_reducible rfl
          rotate_left
          · simp only [Act.put,qA,qB,qC,i64_w,i32_w]
            rfl
          refine one_ (i:=5) (N:=some 72) #[true,true,true,true,true,true,true,true,false,false,false] rfl rfl (by kernel_rfl) (by decide) (fun K hK=>?_)
          refine goes_ Try.func39 (by kernel_rfl) rfl #[.int .i64 (rd l4 0)] (by rfl) rfl rfl (by simp only [List.map_toArray,List.map_cons,List.map_nil];rfl) ?_
          with_reducible refine (show_value.calls (rd l4 0) y _ HY.out).mono ?_
          rintro e wq1 ⟨rfl,hb_⟩
          refine ⟨_,rfl,?_⟩
          have HY1:=aM (HXd.out.below hb_)
          clear hb_
          refine hK.out _ _ ⟨(blk_cell HY1.out.fn 0),(blk_cell HY1.out.box 2),(blk_cell HY1.out.box 4),(pw_cell_below HY1.out.bel HX1.out)⟩ (fun hHeld=>?_)
          clear hK K
          refine norm_ (a':=?_) ?_ ?_
          rotate_left
          · show Act.put _ (some 72) _=_
            simp only [Act.put,qA,qB,qC,i64_w,i32_w]
            rfl
          refine one_ (i:=8) (N:=some 75) #[true,true,true,true,true,true,true,true,true,false,false] rfl rfl (by kernel_rfl) (by decide) (fun K hK=>?_)
          refine goes_ Try.func42 (by kernel_rfl) rfl #[.int .i64 n] (by rfl) rfl rfl (by simp only [List.map_toArray,List.map_cons,List.map_nil];rfl) ?_
          with_reducible refine (digits_Print.calls n d _ HD.out).mono ?_
          rintro e wq2 ⟨rfl,hb_⟩
          refine ⟨_,rfl,?_⟩
          have HY2:=aM (HY1.out.below hb_)
          clear hb_
          refine hK.out _ _ ⟨(blk_cell HY2.out.fn 0),(blk_cell HY2.out.box 2),(blk_cell HY2.out.box 4),(pw_cell_below HY2.out.bel HX1.out)⟩ (fun hHeld=>?_)
          clear hK K
          refine norm_ (a':=?_) ?_ ?_
          rotate_left
          · show Act.put _ (some 75) _=_
            simp only [Act.put,qA,qB,qC,i64_w,i32_w]
            rfl
          refine one_ (i:=9) (N:=some 76) #[true,true,true,true,true,true,true,true,true,true,false] rfl rfl (by kernel_rfl) (by decide) (fun K hK=>?_)
          refine value_ (w1:=?_) (v:=?_) (by rfl) rfl ?_ ?_
          rotate_left 2
          · go_simp
            constructor
            · rfl
            · rfl
          have HY3:=aM (HY2.out.below (below_alloc (Below.refl _ _) (.cells #[.string y,.string d] 9)))
          have HC_:=aM (str_row (ys:=[y,d]) (blk_new wq2 (.cells #[.string y,.string d] 9)) (by simp))
          refine hK.out _ _ ⟨(blk_cell HY3.out.fn 0),(blk_cell HY3.out.box 2),(blk_cell HY3.out.box 4),(pw_cell_below HY3.out.bel HX1.out)⟩ (fun hHeld=>?_)
          clear hK K
          refine norm_ (a':=?_) ?_ ?_
          rotate_left
          · show Act.put _ (some 76) _=_
            simp only [Act.put,qA,qB,qC,i64_w,i32_w]
            rfl
          refine one_ (i:=10) (N:=some 77) #[true,true,true,true,true,true,true,true,true,true,true] rfl rfl (by kernel_rfl) (by decide) (fun K hK=>?_)
          refine goesV_ Try.func37 (by kernel_rfl) rfl #[.pointer (some ⟨b3,0,none⟩)] #[.slice (some ⟨wq2.heap.size,0,none⟩) 2 2,.pointer (some ⟨b3,0,none⟩)] (by rfl) rfl rfl rfl (by simp only [List.map_toArray,List.map_cons,List.map_nil];rfl) ?_
          refine (put_calls b1 b3 b4 _ _ acc [y,d] _ 2 _ _ HY3.out HC_.out (by have:=HAL.out;simp at this ⊢;omega)).mono ?_
          rintro e wq4 ⟨rfl,v1,hx_⟩
          refine ⟨_,rfl,?_⟩
          have HY4:=aM hx_
          clear hx_
          refine hK.out _ _ ⟨(blk_cell HY4.out.fn 0),(blk_cell HY4.out.box 2),(blk_cell HY4.out.box 4),(pw_cell_below HY4.out.bel HX1.out)⟩ (fun hHeld=>?_)
          clear hK K
          refine norm_ (a':=?_) ?_ ?_
          rotate_left
          · show Act.put _ (some 77) _=_
            simp only [Act.put,qA,qB,qC,i64_w,i32_w]
            rfl
          refine done_ (by kernel_rfl) ?_
          clear hHeld
          go_wp2_with fail
          refine (args_calls 1 1 rfl b1 b3 b4 _ _ _ _ _ _ l4 _ _ _ _ _ _ (acc++[y,d]) r4 _ _ HY4.out H4.out H6.out.1 (by have:=HL0.out;omega) HR4.out (by have:=HAL.out;simp at this ⊢;omega)).mono ?_
          rintro e wr1 ⟨rfl,v2,hx_⟩
          have HX2:=aM hx_
          clear hx_
          go_wp2_with fail
          go_meet
          exact ⟨_,⟨by rw [HACC.out];have:=HX2.out;rwa [List.append_assoc] at this⟩⟩
      · subst h1
        unfold tailW at ht
        rw [if_neg (by decide),if_neg (by decide),if_neg (by decide),if_pos rfl] at ht
        have HPH:=aM ht
        clear ht
        have z5:=blk_cell HX.out.box 5
        go_wp2
        (try simp only [Act.put,qA,qB,qC])
        clear z5
        go_loopg [85] l5.length (fun kq v85 w'=>∃ (j:Int) (v1:Value) (ac:List ByteArray),v85=.int .i64 j∧Aside0 (0≤j∧j≤(l5.length:Int))∧Aside0 (∃ rest,phiW (l5.drop j.toNat) (l4.drop j.toNat)=some rest∧ac++rest=acc++tw)∧Aside0 (SIAt b1 b3 b4 #[.int .i64 20,.int .i64 id,.int .i64 n,.int .i64 ty,.slice A4 l4.length c4,.slice A5 l5.length c5,.string nm,.int .i64 at_] v1 ac w w')∧Aside0 (kq=l5.length - j.toNat))
        case atStart=>exact ⟨0,_,acc,rfl,⟨by omega⟩,⟨tw,HPH.out,rfl⟩,⟨HX.out⟩,⟨rfl⟩⟩
        case round=>
          clear HX HPH
          obtain ⟨j,v1,ac,rfl,HJ,HV,HX,HK⟩:=hrel
          obtain ⟨rest,hr,hac⟩:=HV.out
          have hal:=congrArg List.length hac
          rw [List.length_append,List.length_append] at hal
          by_cases hj:j<(l5.length:Int)
          · have dj:decide (j<(l5.length:Int))=true:=decide_eq_true hj
            rw [drop_cons l5 j 0 HJ.out.1 hj] at hr
            have hj4:j<(l4.length:Int):=by
              rcases Classical.em (j<(l4.length:Int)) with e | e
              · exact e
              · rw [drop_none l4 j e] at hr
                cases hr
            rw [drop_cons l4 j 0 HJ.out.1 hj4] at hr
            obtain ⟨u,hu,hr⟩:=Option.bind_eq_some_iff.mp hr
            obtain ⟨y,hy,hr⟩:=Option.bind_eq_some_iff.mp hr
            obtain ⟨rest2,hr2,hr⟩:=Option.bind_eq_some_iff.mp hr
            obtain rfl:=Option.some.inj hr
            obtain ⟨ad5,e5,hx5⟩:=Kd.at_int H5.out j HJ.out.1 hj
            obtain ⟨ad4,e4,hx4⟩:=Kd.at_int H4.out j HJ.out.1 hj4
            subst e5
            subst e4
            have hrd5:rd l5 j=l5.getD j.toNat 0:=rfl
            have hrd4:rd l4 j=l4.getD j.toNat 0:=rfl
            rw [← hrd5] at hu
            rw [← hrd4] at hy
            clear hrd4 hrd5 hr
            generalize rd l5 j=t5 at hu hx5
            generalize rd l4 j=t4 at hy hx4
            have pj:=eq_true HJ.out.1
            have qj:=eq_true hj
            have qj4:=eq_true hj4
            have HJ2:=aM hj
            have HU:=aM hu
            have HY:=aM hy
            have HR2:=aM hr2
            have HAC:=aM hac
            have HX4:=aM hx4
            have HALc:=aM (show ac.length+2≤1000000 by have:=HAL.out;simp at hal;omega)
            have hx5':=pw_cell_below HX.out.bel hx5
            clear hj hj4 hu hy hr2 hac hal HV hx5 hx4
            go_upto_region 32 with (fail)
            have HXd:=aM (HX.out.below (below_drew1 (Below.refl _ _)))
            clear hx5' HX
            refine start_ (n:=11) (S:=fun w'=>w'.cell? ⟨b4,0,none⟩=some (.func (.func 37) #[] #[.pointer (some ⟨b3,0,none⟩)])∧w'.cell? ⟨b1,4,none⟩=some (.slice (some ad4) l4.length c4)∧w'.cell? (ad4.add j.toNat)=some (.int .i64 t4)) (ds:=[]) #[false,false,false,false,false,false,false,false,false,false,false] (by kernel_rfl) rfl rfl ⟨(blk_cell HXd.out.fn 0),(blk_cell HXd.out.box 4),(pw_cell_below HXd.out.bel HX4.out)⟩ (fun hHeld=>?_)
            refine pure_ (i:=1) (N:=some 91) (v:=?_) (a':=?_) #[false,true,false,false,false,false,false,false,false,false,false] rfl rfl (by kernel_rfl) (fun _ _ _ h=>h) (Or.inl ⟨by rfl,?_⟩) ?_ ?_
            rotate_left
            · intro w'
              go_simp
              with_reducible rfl
            rotate_left
            · simp only [Act.put,qA,qB,qC,i64_w,i32_w]
              rfl
            refine pure_ (i:=3) (N:=some 93) (v:=?_) (a':=?_) #[false,true,false,true,false,false,false,false,false,false,false] rfl rfl (by kernel_rfl) (fun _ _ _ h=>h) (Or.inl ⟨by rfl,?_⟩) ?_ ?_
            rotate_left
            · intro w'
              go_simp
              with_reducible rfl
            rotate_left
            · simp only [Act.put,qA,qB,qC,i64_w,i32_w]
              rfl
            refine pure_ (i:=5) (N:=some 95) (v:=?_) (a':=?_) #[false,true,false,true,false,true,false,false,false,false,false] rfl rfl (by kernel_rfl) (fun _ _ _ h=>h) (Or.inl ⟨by rfl,?_⟩) ?_ ?_
            rotate_left
            · intro w'
              go_simp
              with_reducible rfl
            rotate_left
            · simp only [Act.put,qA,qB,qC,i64_w,i32_w]
              rfl
            refine take_ (i:=0) (N:=some 90) (v:=?_) (a':=?_) #[true,true,false,true,false,true,false,false,false,false,false] rfl rfl (by kernel_rfl) (fun _ _ _ h=>h) (Or.inl ⟨by rfl,?_⟩) hHeld ?_ ?_
            rotate_left
            · rintro w' ⟨s0,s1,s2⟩
              go_simp
              with_reducible rfl
            rotate_left
            · simp only [Act.put,qA,qB,qC,i64_w,i32_w]
              rfl
            refine take_ (i:=4) (N:=some 94) (v:=?_) (a':=?_) #[true,true,false,true,true,true,false,false,false,false,false] rfl rfl (by kernel_rfl) (fun _ _ _ h=>h) (Or.inl ⟨by rfl,?_⟩) hHeld ?_ ?_
            rotate_left
            · rintro w' ⟨s0,s1,s2⟩
              go_simp
              with_reducible rfl
            rotate_left
            · simp only [Act.put,qA,qB,qC,i64_w,i32_w]
              rfl
            refine pure_ (i:=6) (N:=some 96) (v:=?_) (a':=?_) #[true,true,false,true,true,true,true,false,false,false,false] rfl rfl (by kernel_rfl) (fun _ _ _ h=>h) (Or.inl ⟨by rfl,?_⟩) ?_ ?_
            rotate_left
            · intro w'
              go_simp
              with_reducible rfl
            rotate_left
            · simp only [Act.put,qA,qB,qC,i64_w,i32_w]
              rfl
            refine take_ (i:=7) (N:=some 97) (v:=?_) (a':=?_) #[true,true,false,true,true,true,true,true,false,false,false] rfl rfl (by kernel_rfl) (fun _ _ _ h=>h) (Or.inl ⟨by rfl,?_⟩) hHeld ?_ ?_
            rotate_left
            · rintro w' ⟨s0,s1,s2⟩
              go_simp
              with_reducible rfl
            rotate_left
            · simp only [Act.put,qA,qB,qC,i64_w,i32_w]
              rfl
            refine one_ (i:=2) (N:=some 92) #[true,true,true,true,true,true,true,true,false,false,false] rfl rfl (by kernel_rfl) (by decide) (fun K hK=>?_)
            refine goes_ Try.func33 (by kernel_rfl) rfl #[.int .i64 t5] (by rfl) rfl rfl (by simp only [List.map_toArray,List.map_cons,List.map_nil];rfl) ?_
            with_reducible refine (show_label.calls t5 u _ HU.out).mono ?_
            rintro e wq1 ⟨rfl,hb_⟩
            refine ⟨_,rfl,?_⟩
            have HY1:=aM (HXd.out.below hb_)
            clear hb_
            refine hK.out _ _ ⟨(blk_cell HY1.out.fn 0),(blk_cell HY1.out.box 4),(pw_cell_below HY1.out.bel HX4.out)⟩ (fun hHeld=>?_)
            clear hK K
            refine norm_ (a':=?_) ?_ ?_
            rotate_left
            · show Act.put _ (some 92) _=_
              simp only [Act.put,qA,qB,qC,i64_w,i32_w]
              rfl
            refine one_ (i:=8) (N:=some 98) #[true,true,true,true,true,true,true,true,true,false,false] rfl rfl (by kernel_rfl) (by decide) (fun K hK=>?_)
            refine goes_ Try.func39 (by kernel_rfl) rfl #[.int .i64 t4] (by rfl) rfl rfl (by simp only [List.map_toArray,List.map_cons,List.map_nil];rfl) ?_
            with_reducible refine (show_value.calls t4 y _ HY.out).mono ?_
            rintro e wq2 ⟨rfl,hb_⟩
            refine ⟨_,rfl,?_⟩
            have HY2:=aM (HY1.out.below hb_)
            clear hb_
            refine hK.out _ _ ⟨(blk_cell HY2.out.fn 0),(blk_cell HY2.out.box 4),(pw_cell_below HY2.out.bel HX4.out)⟩ (fun hHeld=>?_)
            clear hK K
            refine norm_ (a':=?_) ?_ ?_
            rotate_left
            · show Act.put _ (some 98) _=_
              simp only [Act.put,qA,qB,qC,i64_w,i32_w]
              rfl
            refine one_ (i:=9) (N:=some 99) #[true,true,true,true,true,true,true,true,true,true,false] rfl rfl (by kernel_rfl) (by decide) (fun K hK=>?_)
            refine value_ (w1:=?_) (v:=?_) (by rfl) rfl ?_ ?_
            rotate_left 2
            · go_simp
              constructor
              · rfl
              · rfl
            have HY3:=aM (HY2.out.below (below_alloc (Below.refl _ _) (.cells #[.string u,.string y] 9)))
            have HC_:=aM (str_row (ys:=[u,y]) (blk_new wq2 (.cells #[.string u,.string y] 9)) (by simp))
            refine hK.out _ _ ⟨(blk_cell HY3.out.fn 0),(blk_cell HY3.out.box 4),(pw_cell_below HY3.out.bel HX4.out)⟩ (fun hHeld=>?_)
            clear hK K
            refine norm_ (a':=?_) ?_ ?_
            rotate_left
            · show Act.put _ (some 99) _=_
              simp only [Act.put,qA,qB,qC,i64_w,i32_w]
              rfl
            refine one_ (i:=10) (N:=some 100) #[true,true,true,true,true,true,true,true,true,true,true] rfl rfl (by kernel_rfl) (by decide) (fun K hK=>?_)
            refine goesV_ Try.func37 (by kernel_rfl) rfl #[.pointer (some ⟨b3,0,none⟩)] #[.slice (some ⟨wq2.heap.size,0,none⟩) 2 2,.pointer (some ⟨b3,0,none⟩)] (by rfl) rfl rfl rfl (by simp only [List.map_toArray,List.map_cons,List.map_nil];rfl) ?_
            refine (put_calls b1 b3 b4 _ _ ac [u,y] _ 2 _ _ HY3.out HC_.out (by have:=HALc.out;simp;omega)).mono ?_
            rintro e wq4 ⟨rfl,v1,hx_⟩
            refine ⟨_,rfl,?_⟩
            have HY4:=aM hx_
            clear hx_
            refine hK.out _ _ ⟨(blk_cell HY4.out.fn 0),(blk_cell HY4.out.box 4),(pw_cell_below HY4.out.bel HX4.out)⟩ (fun hHeld=>?_)
            clear hK K
            refine norm_ (a':=?_) ?_ ?_
            rotate_left
            · show Act.put _ (some 100) _=_
              simp only [Act.put,qA,qB,qC,i64_w,i32_w]
              rfl
            refine done_ (by kernel_rfl) ?_
            clear hHeld
            go_wp2_with fail
            go_roundg (l5.length - (j+1).toNat)
            case measure=>have:=HK.out;have:=HJ.out;have:=HJ2.out;omega
            case rel=>exact ⟨j+1,_,ac++[u,y],by rw [show wrap64 (j+1)=j+1 from w64 (by have:=HJ.out;omega) (by have:=HJ2.out;have:=H7.out;omega)],⟨by have:=HJ.out;have:=HJ2.out;omega⟩,⟨rest2,HR2.out,by rw [← HAC.out];simp⟩,⟨HY4.out⟩,⟨rfl⟩⟩
          · have dj:decide (j<(l5.length:Int))=false:=decide_eq_false hj
            rw [drop_none _ _ hj] at hr
            obtain rfl:[]=rest:=by simpa [phiW] using hr
            rw [List.append_nil] at hac
            have HAC:=aM hac
            clear hj hr hac hal
            go_wp2_with fail
            go_meet
            exact ⟨_,⟨by rw [HACC.out,← HAC.out];exact HX.out⟩⟩
      · subst h1
        unfold tailW at ht
        rw [if_neg (by decide),if_neg (by decide),if_neg (by decide),if_neg (by decide),if_pos rfl] at ht
        obtain ⟨hn,hhn,ht⟩:=Option.bind_eq_some_iff.mp ht
        obtain ⟨rv,hrv,ht⟩:=Option.bind_eq_some_iff.mp ht
        obtain rfl:=Option.some.inj ht
        have HHN:=aM hhn
        have HRV:=aM hrv
        clear hhn hrv ht
        have z2:=blk_cell HX.out.box 2
        go_upto_if 106 with (fail)
        (try simp only [Act.put,qA,qB,qC])
        clear z2
        go_cut [] (fun wc=>∃ v,Aside0 (SIAt b1 b3 b4 #[.int .i64 21,.int .i64 id,.int .i64 n,.int .i64 ty,.slice A4 l4.length c4,.slice A5 l5.length c5,.string nm,.int .i64 at_] v (acc++hn) w wc))
        case first=>
          have hh:=HHN.out
          by_cases n0:n=0
          · rw [if_pos n0] at hh
            obtain rfl:=Option.some.inj hh
            have g:(n !=0)=false:=bne_eq_false_iff_eq.mpr n0
            (try rw [g])
            clear n0 hh
            go_wp2_with fail
            go_meet
            exact ⟨_,⟨by rw [List.append_nil];exact HX.out⟩⟩
          · rw [if_neg n0] at hh
            obtain ⟨d,hd,hh⟩:=Option.bind_eq_some_iff.mp hh
            by_cases hds:1+d.size≤9223372036854775807
            rotate_left
            · rw [if_neg hds] at hh
              cases hh
            rw [if_pos hds] at hh
            obtain rfl:=Option.some.inj hh
            have g:(n !=0)=true:=bne_iff_ne.mpr n0
            have HD:=aM hd
            have hsz:(9223372036854775807<1+d.size)=False:=eq_false (Nat.not_lt.mpr hds)
            (try rw [g])
            clear n0 hh hd hds
            go_upto_region 36 with (fail)
            have HXd:=aM (HX.out.below (below_drew1 (Below.refl _ _)))
            refine start_ (n:=7) (S:=fun w'=>w'.cell? ⟨b4,0,none⟩=some (.func (.func 37) #[] #[.pointer (some ⟨b3,0,none⟩)])∧w'.cell? ⟨b1,2,none⟩=some (.int .i64 n)) (ds:=[]) #[false,false,false,false,false,false,false] (by kernel_rfl) rfl rfl ⟨(blk_cell HXd.out.fn 0),(blk_cell HXd.out.box 2)⟩ (fun hHeld=>?_)
            refine pure_ (i:=1) (N:=some 108) (v:=?_) (a':=?_) #[false,true,false,false,false,false,false] rfl rfl (by kernel_rfl) (fun _ _ _ h=>h) (Or.inl ⟨by rfl,?_⟩) ?_ ?_
            rotate_left
            · intro w'
              go_simp
              (try simp only [hsz,↓reduceIte]);with_reducible rfl
            rotate_left
            · simp only [Act.put,qA,qB,qC,i64_w,i32_w]
              rfl
            refine take_ (i:=0) (N:=some 107) (v:=?_) (a':=?_) #[true,true,false,false,false,false,false] rfl rfl (by kernel_rfl) (fun _ _ _ h=>h) (Or.inl ⟨by rfl,?_⟩) hHeld ?_ ?_
            rotate_left
            · rintro w' ⟨s0,s1⟩
              go_simp
              (try simp only [hsz,↓reduceIte]);with_reducible rfl
            rotate_left
            · simp only [Act.put,qA,qB,qC,i64_w,i32_w]
              rfl
            refine take_ (i:=2) (N:=some 109) (v:=?_) (a':=?_) #[true,true,true,false,false,false,false] rfl rfl (by kernel_rfl) (fun _ _ _ h=>h) (Or.inl ⟨by rfl,?_⟩) hHeld ?_ ?_
            rotate_left
            · rintro w' ⟨s0,s1⟩
              go_simp
              (try simp only [hsz,↓reduceIte]);with_reducible rfl
            rotate_left
            · simp only [Act.put,qA,qB,qC,i64_w,i32_w]
              rfl
            refine one_ (i:=3) (N:=some 110) #[true,true,true,true,false,false,false] rfl rfl (by kernel_rfl) (by decide) (fun K hK=>?_)
            refine goes_ Try.func42 (by kernel_rfl) rfl #[.int .i64 n] (by rfl) rfl rfl (by simp only [List.map_toArray,List.map_cons,List.map_nil];rfl) ?_
            with_reducible refine (digits_Print.calls n d _ HD.out).mono ?_
            rintro e wq1 ⟨rfl,hb_⟩
            refine ⟨_,rfl,?_⟩
            have HY1:=aM (HXd.out.below hb_)
            clear hb_
            refine hK.out _ _ ⟨(blk_cell HY1.out.fn 0),(blk_cell HY1.out.box 2)⟩ (fun hHeld=>?_)
            clear hK K
            refine norm_ (a':=?_) ?_ ?_
            rotate_left
            · show Act.put _ (some 110) _=_
              simp only [Act.put,qA,qB,qC,i64_w,i32_w]
              rfl
            refine pure_ (i:=4) (N:=some 111) (v:=?_) (a':=?_) #[true,true,true,true,true,false,false] rfl rfl (by kernel_rfl) (fun _ _ _ h=>h) (Or.inl ⟨by rfl,?_⟩) ?_ ?_
            rotate_left
            · intro w'
              go_simp
              (try simp only [hsz,↓reduceIte]);with_reducible rfl
            rotate_left
            · simp only [Act.put,qA,qB,qC,i64_w,i32_w]
              rfl
            refine one_ (i:=5) (N:=some 112) #[true,true,true,true,true,true,false] rfl rfl (by kernel_rfl) (by decide) (fun K hK=>?_)
            refine value_ (w1:=?_) (v:=?_) (by rfl) rfl ?_ ?_
            rotate_left 2
            · go_simp
              constructor
              · rfl
              · rfl
            have HY2:=aM (HY1.out.below (below_alloc (Below.refl _ _) (.cells #[.string ((⟨#[64]⟩:ByteArray)++d)] 9)))
            have HC_:=aM (str_row (ys:=[((⟨#[64]⟩:ByteArray)++d)]) (blk_new wq1 (.cells #[.string ((⟨#[64]⟩:ByteArray)++d)] 9)) (by simp))
            refine hK.out _ _ ⟨(blk_cell HY2.out.fn 0),(blk_cell HY2.out.box 2)⟩ (fun hHeld=>?_)
            clear hK K
            refine norm_ (a':=?_) ?_ ?_
            rotate_left
            · show Act.put _ (some 112) _=_
              simp only [Act.put,qA,qB,qC,i64_w,i32_w]
              rfl
            refine one_ (i:=6) (N:=some 113) #[true,true,true,true,true,true,true] rfl rfl (by kernel_rfl) (by decide) (fun K hK=>?_)
            refine goesV_ Try.func37 (by kernel_rfl) rfl #[.pointer (some ⟨b3,0,none⟩)] #[.slice (some ⟨wq1.heap.size,0,none⟩) 1 1,.pointer (some ⟨b3,0,none⟩)] (by rfl) rfl rfl rfl (by simp only [List.map_toArray,List.map_cons,List.map_nil];rfl) ?_
            refine (put_calls b1 b3 b4 _ _ acc [((⟨#[64]⟩:ByteArray)++d)] _ 1 _ _ HY2.out HC_.out (by have:=HAL.out;simp at this ⊢;omega)).mono ?_
            rintro e wq3 ⟨rfl,v1,hx_⟩
            refine ⟨_,rfl,?_⟩
            have HY3:=aM hx_
            clear hx_
            refine hK.out _ _ ⟨(blk_cell HY3.out.fn 0),(blk_cell HY3.out.box 2)⟩ (fun hHeld=>?_)
            clear hK K
            refine norm_ (a':=?_) ?_ ?_
            rotate_left
            · show Act.put _ (some 113) _=_
              simp only [Act.put,qA,qB,qC,i64_w,i32_w]
              rfl
            refine done_ (by kernel_rfl) ?_
            clear hHeld
            (try go_wp2)
            go_meet
            exact ⟨_,HY3⟩
        case rest=>
          clear HX HHN
          obtain ⟨v,HX⟩:=hcut
          have z6:=blk_cell HX.out.box 6
          have zf:=blk_cell HX.out.fn 0
          have HXr:=aM (HX.out.below (below_alloc (Below.refl _ _) (.cells #[.string nm] 9)))
          have HC_:=aM (str_row (ys:=[nm]) (blk_new wc (.cells #[.string nm] 9)) (by simp))
          go_wp2_with fail
          refine (put_calls b1 b3 b4 _ _ (acc++hn) [nm] _ 1 _ _ HXr.out HC_.out (by have:=HAL.out;simp at this ⊢;omega)).mono ?_
          rintro e wr1 ⟨rfl,v1,hx_⟩
          have HX2:=aM hx_
          clear hx_ z6 zf HXr HC_ HX
          go_wp2_with fail
          refine (args_calls 0 0 rfl b1 b3 b4 _ _ _ _ _ _ l4 _ _ _ _ _ _ (acc++hn++[nm]) rv _ _ HX2.out H4.out H6.out.1 (Nat.zero_le _) HRV.out (by have:=HAL.out;simp at this ⊢;omega)).mono ?_
          rintro e wr2 ⟨rfl,v2,hx_⟩
          have HX3:=aM hx_
          clear hx_
          go_wp2_with fail
          go_meet
          exact ⟨_,⟨by rw [HACC.out];have:=HX3.out;rwa [show acc++hn++[nm]++rv=acc++(hn++nm::rv) by simp] at this⟩⟩
      · rw [tail_none op n l4 l5 nm h1] at ht
        obtain ⟨rv,hrv,ht⟩:=Option.bind_eq_some_iff.mp ht
        obtain ⟨rl,hrl,ht⟩:=Option.bind_eq_some_iff.mp ht
        obtain rfl:=Option.some.inj ht
        have HRV:=aM hrv
        have HRL:=aM hrl
        clear hrv hrl ht
        obtain ⟨h1,h2,h3,h4,h5,h6,h7,h8,h9,h10,h11,h12⟩:=h1
        have g1:(op==1)=false:=beq_eq_false_iff_ne.mpr h1
        have g2:(op==23)=false:=beq_eq_false_iff_ne.mpr h2
        have g3:(op==29)=false:=beq_eq_false_iff_ne.mpr h3
        have g4:(op==10)=false:=beq_eq_false_iff_ne.mpr h4
        have g5:(op==11)=false:=beq_eq_false_iff_ne.mpr h5
        have g6:(op==12)=false:=beq_eq_false_iff_ne.mpr h6
        have g7:(op==15)=false:=beq_eq_false_iff_ne.mpr h7
        have g8:(op==24)=false:=beq_eq_false_iff_ne.mpr h8
        have g9:(op==13)=false:=beq_eq_false_iff_ne.mpr h9
        have g10:(op==14)=false:=beq_eq_false_iff_ne.mpr h10
        have g11:(op==20)=false:=beq_eq_false_iff_ne.mpr h11
        have g12:(op==21)=false:=beq_eq_false_iff_ne.mpr h12
        clear h1 h2 h3 h4 h5 h6 h7 h8 h9 h10 h11 h12
        go_wp2_with fail
        refine (args_calls 0 0 rfl b1 b3 b4 _ _ _ _ _ _ l4 _ _ _ _ _ _ acc rv _ _ HX.out H4.out H6.out.1 (Nat.zero_le _) HRV.out (by have:=HAL.out;simp at this ⊢;omega)).mono ?_
        rintro e wr1 ⟨rfl,v1,hx_⟩
        have HX1:=aM hx_
        have z5:=blk_cell hx_.box 5
        clear hx_ g1 g2 g3 g4 g5 g6 g7 g8 g9 g10 g11 g12 HX
        go_wp2
        (try simp only [Act.put,qA,qB,qC])
        clear z5
        go_loopg [33] l5.length (fun kq v33 w'=>∃ (j:Int) (v1:Value) (ac:List ByteArray),v33=.int .i64 j∧Aside0 (0≤j∧j≤(l5.length:Int))∧Aside0 (∃ rest,labsW (l5.drop j.toNat)=some rest∧ac++rest=acc++rv++rl)∧Aside0 (SIAt b1 b3 b4 #[.int .i64 op,.int .i64 id,.int .i64 n,.int .i64 ty,.slice A4 l4.length c4,.slice A5 l5.length c5,.string nm,.int .i64 at_] v1 ac w w')∧Aside0 (kq=l5.length - j.toNat))
        case atStart=>exact ⟨0,_,acc++rv,rfl,⟨by omega⟩,⟨rl,HRL.out,rfl⟩,⟨HX1.out⟩,⟨rfl⟩⟩
        case round=>
          clear HX1 HRL
          obtain ⟨j,v1,ac,rfl,HJ,HV,HX,HK⟩:=hrel
          obtain ⟨rest,hr,hac⟩:=HV.out
          have hal:=congrArg List.length hac
          rw [List.length_append,List.length_append,List.length_append] at hal
          by_cases hj:j<(l5.length:Int)
          · have dj:decide (j<(l5.length:Int))=true:=decide_eq_true hj
            rw [drop_cons l5 j 0 HJ.out.1 hj] at hr
            obtain ⟨y,hy,hr⟩:=Option.bind_eq_some_iff.mp hr
            obtain ⟨rest2,hr2,hr⟩:=Option.bind_eq_some_iff.mp hr
            obtain rfl:=Option.some.inj hr
            obtain ⟨ad5,e5,hx5⟩:=Kd.at_int H5.out j HJ.out.1 hj
            subst e5
            have hrd5:rd l5 j=l5.getD j.toNat 0:=rfl
            rw [← hrd5] at hy
            clear hrd5 hr
            generalize rd l5 j=t5 at hy hx5
            have pj:=eq_true HJ.out.1
            have qj:=eq_true hj
            have HJ2:=aM hj
            have HY:=aM hy
            have HR2:=aM hr2
            have HAC:=aM hac
            have HALc:=aM (show ac.length+1≤1000000 by have:=HAL.out;simp at hal this;omega)
            have hx5':=pw_cell_below HX.out.bel hx5
            clear hj hy hr2 hac hal HV hx5
            go_upto_region 12 with (fail)
            have HXd:=aM (HX.out.below (below_drew1 (Below.refl _ _)))
            clear hx5' HX
            refine start_ (n:=5) (S:=fun w'=>w'.cell? ⟨b4,0,none⟩=some (.func (.func 37) #[] #[.pointer (some ⟨b3,0,none⟩)])) (ds:=[]) #[false,false,false,false,false] (by kernel_rfl) rfl rfl ((blk_cell HXd.out.fn 0)) (fun hHeld=>?_)
            refine pure_ (i:=1) (N:=some 38) (v:=?_) (a':=?_) #[false,true,false,false,false] rfl rfl (by kernel_rfl) (fun _ _ _ h=>h) (Or.inl ⟨by rfl,?_⟩) ?_ ?_
            rotate_left
            · intro w'
              go_simp
              with_reducible rfl
            rotate_left
            · simp only [Act.put,qA,qB,qC,i64_w,i32_w]
              rfl
            refine take_ (i:=0) (N:=some 37) (v:=?_) (a':=?_) #[true,true,false,false,false] rfl rfl (by kernel_rfl) (fun _ _ _ h=>h) (Or.inl ⟨by rfl,?_⟩) hHeld ?_ ?_
            rotate_left
            · intro w' s0
              go_simp
              with_reducible rfl
            rotate_left
            · simp only [Act.put,qA,qB,qC,i64_w,i32_w]
              rfl
            refine one_ (i:=2) (N:=some 39) #[true,true,true,false,false] rfl rfl (by kernel_rfl) (by decide) (fun K hK=>?_)
            refine goes_ Try.func33 (by kernel_rfl) rfl #[.int .i64 t5] (by rfl) rfl rfl (by simp only [List.map_toArray,List.map_cons,List.map_nil];rfl) ?_
            with_reducible refine (show_label.calls t5 y _ HY.out).mono ?_
            rintro e wq1 ⟨rfl,hb_⟩
            refine ⟨_,rfl,?_⟩
            have HY1:=aM (HXd.out.below hb_)
            clear hb_
            refine hK.out _ _ ((blk_cell HY1.out.fn 0)) (fun hHeld=>?_)
            clear hK K
            refine norm_ (a':=?_) ?_ ?_
            rotate_left
            · show Act.put _ (some 39) _=_
              simp only [Act.put,qA,qB,qC,i64_w,i32_w]
              rfl
            refine one_ (i:=3) (N:=some 40) #[true,true,true,true,false] rfl rfl (by kernel_rfl) (by decide) (fun K hK=>?_)
            refine value_ (w1:=?_) (v:=?_) (by rfl) rfl ?_ ?_
            rotate_left 2
            · go_simp
              constructor
              · rfl
              · rfl
            have HY2:=aM (HY1.out.below (below_alloc (Below.refl _ _) (.cells #[.string y] 9)))
            have HC_:=aM (str_row (ys:=[y]) (blk_new wq1 (.cells #[.string y] 9)) (by simp))
            refine hK.out _ _ ((blk_cell HY2.out.fn 0)) (fun hHeld=>?_)
            clear hK K
            refine norm_ (a':=?_) ?_ ?_
            rotate_left
            · show Act.put _ (some 40) _=_
              simp only [Act.put,qA,qB,qC,i64_w,i32_w]
              rfl
            refine one_ (i:=4) (N:=some 41) #[true,true,true,true,true] rfl rfl (by kernel_rfl) (by decide) (fun K hK=>?_)
            refine goesV_ Try.func37 (by kernel_rfl) rfl #[.pointer (some ⟨b3,0,none⟩)] #[.slice (some ⟨wq1.heap.size,0,none⟩) 1 1,.pointer (some ⟨b3,0,none⟩)] (by rfl) rfl rfl rfl (by simp only [List.map_toArray,List.map_cons,List.map_nil];rfl) ?_
            refine (put_calls b1 b3 b4 _ _ ac [y] _ 1 _ _ HY2.out HC_.out (HALc.out)).mono ?_
            rintro e wq3 ⟨rfl,v1,hx_⟩
            refine ⟨_,rfl,?_⟩
            have HY3:=aM hx_
            clear hx_
            refine hK.out _ _ ((blk_cell HY3.out.fn 0)) (fun hHeld=>?_)
            clear hK K
            refine norm_ (a':=?_) ?_ ?_
            rotate_left
            · show Act.put _ (some 41) _=_
              simp only [Act.put,qA,qB,qC,i64_w,i32_w]
              rfl
            refine done_ (by kernel_rfl) ?_
            clear hHeld
            go_wp2_with fail
            go_roundg (l5.length - (j+1).toNat)
            case measure=>have:=HK.out;have:=HJ.out;have:=HJ2.out;omega
            case rel=>exact ⟨j+1,_,ac++[y],by rw [show wrap64 (j+1)=j+1 from w64 (by have:=HJ.out;omega) (by have:=HJ2.out;have:=H7.out;omega)],⟨by have:=HJ.out;have:=HJ2.out;omega⟩,⟨rest2,HR2.out,by rw [← HAC.out];simp⟩,⟨HY3.out⟩,⟨rfl⟩⟩
          · have dj:decide (j<(l5.length:Int))=false:=decide_eq_false hj
            rw [drop_none _ _ hj] at hr
            obtain rfl:[]=rest:=by simpa [labsW] using hr
            rw [List.append_nil] at hac
            have HAC:=aM hac
            clear hj hr hac hal
            go_wp2_with fail
            go_meet
            exact ⟨_,⟨by rw [HACC.out,← List.append_assoc,← HAC.out];exact HX.out⟩⟩
    case rest=>
      clear HT
      obtain ⟨v,HX⟩:=hcut
      generalize hw++mk (wordL op ty)::tw=WS at HX HF
      have z3:=blk_cell HX.out.var 0
      obtain ⟨A7,c7,e7,hl7,hC7⟩:=Kd.R_reads HX.out.row
      subst e7
      have HC7:=aM (And.intro hC7 hl7)
      clear hC7 hl7
      go_wp2_with fail
      refine (show_line.calls A7 c7 _ r _ HC7.out.1 HC7.out.2 HF.out).mono ?_
      rintro e w9 ⟨rfl,hb9⟩
      have HB9:=aM (below_step HX.out.bel hb9)
      clear hb9 z3
      go_wp2
      go_ret
      exact ⟨rfl,HB9.out⟩
end Go.Proofs.Ytkjdblbgmomieaa.PSh
end
