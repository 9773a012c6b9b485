import Derived.Test.YtkjdblbgmomieaaMr2
import Derived.Test.YtkjdblbgmomieaaMr5
import Derived.Test.YtkjdblbgmomieaaMr3
import Derived.Test.YtkjdblbgmomieaaMr4
import Derived.Test.YtkjdblbgmomieaaMr1
import Derived.Deep.WholeRow
import Derived.KernelRfl
import Derived.Laws.CopyOwn
-- from YtkjdblbgmomieaaHPrint
section
namespace Go.Proofs.Ytkjdblbgmomieaa.PSh
set_option maxHeartbeats 1000000
set_option maxRecDepth 100000
open Go.RowKit Go.Proofs.YtkjdblbgmomieaaW.PrintWords Go.Proofs.YtkjdblbgmomieaaW.PrintLast Go.Proofs.YtkjdblbgmomieaaW.PrintMore Go.Proofs.Ytkjdblbgmomieaa.Dig
set_option linter.unusedVariables false
set_option linter.unusedSimpArgs false
def digits_Print.f (a0:Int):Option ByteArray:=if -9223372036854775808≤a0 then (if a0≤9223372036854775807 then some ⟨(digs a0).toArray⟩ else none) else none
def u8s (L:List Int):Array Value:=(L.map (Value.int .u8)).toArray
theorem u8s_set (L:List Int) (i:Nat) (x:Int):(u8s L).setIfInBounds i (.int .u8 x)=u8s (L.set i x):=by
  apply Array.toList_inj.1
  simp [u8s,List.map_set]
theorem u8s_get {L:List Int} {i:Nat} (h:i<L.length):(u8s L)[i]?=some (.int .u8 (L[i])):=by
  simp [u8s,h]
theorem reads_tail {w:World} {g:Nat} {L:List Int} {t:TypeId} (h:w.heap[g]?=some (.cells (u8s L) t (0,0))) (i:Nat) (hi:i≤L.length) (hl:L.length≤9223372036854775807):(Kd.int .u8).C w (some ⟨g,i,none⟩) (L.drop i).length (L.drop i):=by
  refine ⟨rfl,by rw [List.length_drop];omega,fun _=>⟨_,rfl,fun j p hj=>⟨[.int .u8 p],rfl,rfl,fun q u hu=>?_⟩⟩⟩
  have hq:q=0:=by
    have:=(List.getElem?_eq_some_iff.1 hu).1
    simpa using this
  subst hq
  have hsz:(Kd.int .u8).sz=1:=rfl
  rw [hsz,Nat.mul_one,Nat.add_zero,add_at,blk_cell h]
  have hj2:=(List.getElem?_eq_some_iff.1 hj).1
  rw [List.length_drop] at hj2
  rw [u8s_get (by omega)]
  rw [List.getElem?_drop,List.getElem?_eq_getElem (by omega)] at hj
  simp at hu hj
  rw [← hu,hj]
theorem slice20 (g i:Nat) (hi:i≤19) (w:World):(Instr.sliceAt 98 (.pointer (some ⟨g,0,none⟩)) (some (.int .i64 (i:Int))) none none).run Try.prog w=.ok (.slice (some ⟨g,i,none⟩) (20 - i) (20 - i)) w:=by
  have hl:Try.prog.arrayLen 98=20:=by kernel_rfl
  have hs:(sizeOf (Try.prog.elem 98)).run Try.prog w=.ok 1 w:=by kernel_rfl
  rw [run_sliceAt_array_l w 98 ⟨g,0,none⟩ (by kernel_rfl) .i64 (i:Int) (by omega) (by rw [hl];omega),hs,hl]
  simp only [Result.andThen,slicedAt,Int.toNat_natCast,Nat.mul_one,add_plain]
  rw [if_neg (by omega)]
theorem conv_tail {w:World} {g:Nat} {L:List Int} (h:w.heap[g]?=some (.cells (u8s L) 98 (0,0))) (hL:L.length=20) (i:Nat) (hi:i≤20) (l:List UInt8) (hd:L.drop i=l.map (fun c=>(c.toNat:Int))):
    ∀ c,(convert 53 9 (.slice (some ⟨g,i,none⟩) (20 - i) c)).run Try.prog w=.ok (.string ⟨l.toArray⟩) w:=by
  intro c
  have e:20 - i=(L.drop i).length:=by rw [List.length_drop,hL]
  rw [e,Kd.C_string (P:=Try.prog) Try.underlying53 Try.underlying5 Try.underlying9 (reads_tail h i (by omega) (by omega)),hd,str_of]
def AtHead (w:World) (a0:Int) (at_ k:Value) (wr:World):Prop:=∃ (m:Nat) (kk:Int) (L:List Int),at_=.int .i64 (20 - (m:Int))∧k=.int .i64 kk∧Aside0 (Inv a0 m kk L)∧Aside0 (wr.heap[w.heap.size]?=some (.cells (u8s L) 98 (0,0)))∧Aside0 (Below w.heap.size w wr)
theorem digits_Print.calls (a0:Int) (r:ByteArray) (w:World) (h:digits_Print.f a0=some r):
    Calls Try.prog 42 #[.int .i64 a0] w fun e w'=>e=.returned (.string r)∧Below w.heap.size w w':=by
  unfold digits_Print.f at h
  by_cases hlo:-9223372036854775808≤a0
  case neg=>rw [if_neg hlo] at h;cases h
  by_cases hhi:a0≤9223372036854775807
  case neg=>rw [if_pos hlo,if_neg hhi] at h;cases h
  rw [if_pos hlo,if_pos hhi] at h
  obtain rfl:=Option.some.inj h
  clear h
  by_cases hz:a0=0
  · subst hz
    go_enter Try.func42,Try.ntmps42
    go_wp2
    go_ret
    exact ⟨rfl,Below.refl _ _⟩
  · have h0:(a0==0)=false:=by simpa using hz
    have HI:=aM (inv_start hlo hhi)
    have HZ:=aM hz
    clear hz
    go_enter Try.func42,Try.ntmps42
    go_wp2
    go_loopw [4,5] (fun at_ k wr=>AtHead w a0 at_ k wr) (fun _ k _=>(intOf k).natAbs)
    case atStart=>exact ⟨0,a0,_,by simp,rfl,HI,⟨blk_new w _⟩,⟨(Below.refl _ _).alloc (Nat.le_refl _) _⟩⟩
    case round=>
      obtain ⟨m,kk,L,rfl,rfl,HV,HB,HW⟩:=hrel
      clear HI
      by_cases hk:kk=0
      · subst hk
        have hm19:m≤19:=HV.out.m19
        have hlen:=HV.out.len
        have hend:L.drop (20 - m)=(pd a0.natAbs).map (fun c=>(c.toNat:Int)):=inv_end HV.out
        have hm1:1≤m:=by
          rcases Nat.eq_zero_or_pos m with h | h
          · exfalso
            subst h
            rw [show 20 - 0=L.length from by rw [hlen],List.drop_length] at hend
            exact pd_ne_nil (n:=a0.natAbs) (by have:=HZ.out;omega) (by simpa using hend.symm)
          · exact h
        have HE:=aM hend
        clear hend
        by_cases hneg:a0<0
        · have hd:decide (a0<0)=true:=decide_eq_true hneg
          obtain ⟨v0,hc⟩:∃ v,wr.cell? ⟨w.heap.size,19 - m,none⟩=some v:=⟨_,(blk_cell HB.out _).trans (u8s_get (by omega))⟩
          have hf:wr.frozen? ⟨w.heap.size,19 - m,none⟩=false:=blk_frozen HB.out _
          have hcv:=conv_tail (w:=wr.setCell ⟨w.heap.size,19 - m,none⟩ (.int .u8 45)) (g:=w.heap.size) (L:=L.set (19 - m) 45) (by rw [← u8s_set];exact blk_set HB.out (19 - m) (.int .u8 45)) (by rw [List.length_set];exact hlen) (19 - m) (by omega) (45::pd a0.natAbs) (inv_minus HV.out)
          have hsl:=slice20 w.heap.size (19 - m) (by omega)
          have hs1:(20 - (m:Int)) - 1=((19 - m:Nat):Int):=by omega
          clear hlen
          go_wp2
          go_ret
          have e:digs a0=45::pd a0.natAbs:=by unfold digs;rw [if_neg HZ.out,if_pos (by omega)]
          rw [e]
          exact ⟨rfl,HW.out.setCell (Nat.le_refl _) _⟩
        · have hd:decide (a0<0)=false:=decide_eq_false hneg
          have hcv:=conv_tail HB.out hlen (20 - m) (by omega) (pd a0.natAbs) HE.out
          have hsl:=slice20 w.heap.size (20 - m) (by omega)
          have hs1:(20 - (m:Int))=((20 - m:Nat):Int):=by omega
          clear hlen
          go_wp2
          go_ret
          have e:digs a0=pd a0.natAbs:=by unfold digs;rw [if_neg HZ.out,if_neg (by omega)]
          rw [e]
          exact ⟨rfl,HW.out⟩
      · have hk0:(kk==0)=false:=by simpa using hk
        have hk1:(kk !=0)=true:=by simpa using hk
        have h18:=ten_pow m kk.natAbs (by omega) (HV.out.pow hk)
        have hlo2:=HV.out.low
        have hhi2:=HV.out.high
        have HL:=aM HV.out.len
        have hs1:(20 - (m:Int)) - 1=((19 - m:Nat):Int):=by omega
        obtain ⟨v0,hc⟩:∃ v,wr.cell? ⟨w.heap.size,19 - m,none⟩=some v:=⟨_,(blk_cell HB.out _).trans (u8s_get (by have:=HL.out;omega))⟩
        have hf:wr.frozen? ⟨w.heap.size,19 - m,none⟩=false:=blk_frozen HB.out _
        rcases Int.lt_or_gt_of_ne hk with hneg | hpos
        · go_wp2
          · have hq:kk.tmod 10<0:=by assumption
            have e1:(kk.tmod 10).natAbs=kk.natAbs % 10:=by rw [Int.natAbs_tmod];rfl
            have e2:(kk.tdiv 10).natAbs=kk.natAbs / 10:=by rw [Int.natAbs_tdiv];rfl
            refine ⟨⟨m+1,kk.tdiv 10,L.set (19 - m) ((48+wrap64 (-kk.tmod 10)) % 256),congrArg (Value.int .i64) (by omega),rfl,⟨inv_step HV.out hk _ ?_ _ rfl⟩,⟨by rw [← u8s_set];exact blk_set HB.out (19 - m) _⟩,⟨HW.out.setCell (Nat.le_refl _) _⟩⟩,by simp only [intOf];omega⟩
            unfold wrap64;omega
          · have hq:0≤kk.tmod 10:=by assumption
            have e1:(kk.tmod 10).natAbs=kk.natAbs % 10:=by rw [Int.natAbs_tmod];rfl
            have e2:(kk.tdiv 10).natAbs=kk.natAbs / 10:=by rw [Int.natAbs_tdiv];rfl
            refine ⟨⟨m+1,kk.tdiv 10,L.set (19 - m) ((48+kk.tmod 10) % 256),congrArg (Value.int .i64) (by omega),rfl,⟨inv_step HV.out hk _ ?_ _ rfl⟩,⟨by rw [← u8s_set];exact blk_set HB.out (19 - m) _⟩,⟨HW.out.setCell (Nat.le_refl _) _⟩⟩,by simp only [intOf];omega⟩
            omega
        · have hd:decide (kk % 10<0)=false:=decide_eq_false (by omega)
          go_wp2
          refine ⟨⟨m+1,kk / 10,L.set (19 - m) (48+kk % 10),congrArg (Value.int .i64) (by omega),rfl,⟨inv_step HV.out hk _ ?_ _ ?_⟩,⟨by rw [← u8s_set];exact blk_set HB.out (19 - m) _⟩,⟨HW.out.setCell (Nat.le_refl _) _⟩⟩,by simp only [intOf];omega⟩
          · have:kk=(kk.natAbs:Int):=by omega
            omega
          · rw [Int.tdiv_eq_ediv_of_nonneg (by omega)]
end Go.Proofs.Ytkjdblbgmomieaa.PSh
end
-- from YtkjdblbgmomieaaPShx10
section
namespace Go.Proofs.Ytkjdblbgmomieaa.PSh
set_option maxHeartbeats 8000000
set_option maxRecDepth 100000
open Go.RowKit Go.Proofs.YtkjdblbgmomieaaW.PrintWords Go.Proofs.YtkjdblbgmomieaaW.PrintLast Go.Proofs.YtkjdblbgmomieaaW.PrintMore Go.Proofs.Ytkjdblbgmomieaa.Zip
attribute [local go_sem] max2_int min2_int max_two min_two max_three min_three max_four min_four   -- for this text's walks alone
set_option linter.unusedVariables false
set_option linter.unusedSimpArgs false
def digits_Small.f (a0:Int):Option (ByteArray):=(digits_Print.f a0).bind fun t173=>(some t173)
theorem digits_Small.calls (a0:Int) (r:ByteArray) (w:World) (h:digits_Small.f a0=some r):
  Calls Try.prog 67 #[.int .i64 a0] w fun e w'=>e=.returned (.string r)∧Below w.heap.size w w':=by
 have HB:=aM (Below.refl w.heap.size w)
 have H:((digits_Print.f a0).bind fun t173=>(some t173))=some r:=h
 clear h
 replace H:=Option.bind_eq_some_iff.mp H
 obtain ⟨t173,A20,H⟩:=H
 have A2:=aM A20
 clear A20
 obtain rfl:=Option.some.inj H
 go_enter Try.func67,Try.ntmps67
 go_wp2_with (first | ((with_reducible refine gate_callee (f:=42) rfl ?_);refine goesL_ (some 4) rfl rfl Try.func42 (by kernel_rfl) rfl #[.int .i64 a0] rfl zA ?_;(with_reducible refine (digits_Print.calls a0 t173 _ A2.out).mono ?_);rintro e w3 ⟨rfl,hb⟩;refine ⟨_,rfl,?_⟩;have n0_:=aM (below_step (zB HB.out) hb);clear HB;have HB:=n0_;clear n0_;(try clear hb);(try clear hb2);(try clear hk);(try clear hi)))
 go_ret
 exact ⟨zF,zB HB.out⟩
def ops_typed.f (a0:Int):Option (Bool):=if a0=20 then (some true) else (if a0=21 then (some true) else (some (a0==24)))
theorem ops_typed.calls (a0:Int) (r:Bool) (w:World) (h:ops_typed.f a0=some r):
  Calls Try.prog 68 #[.int .i64 a0] w fun e w'=>e=.returned (.bool r)∧Drawn0 w w':=by
 have H:(if a0=20 then (some true) else (if a0=21 then (some true) else (some (a0==24))))=some r:=h
 clear h
 by_cases c2:a0=20
 ·rw [if_pos c2] at H
  have c2b0:(a0==20)=true:=beq_iff_eq.mpr c2
  clear c2
  obtain rfl:=Option.some.inj H
  go_enter Try.func68,Try.ntmps68
  go_wp2
  go_ret
  exact ⟨by first | rfl | (simp;done) | (simp [*];done),zQ⟩
 ·rw [if_neg c2] at H
  have c2b0:(a0==20)=false:=beq_eq_false_iff_ne.mpr c2
  by_cases c3:a0=21
  ·rw [if_pos c3] at H
   have c3b0:(a0==21)=true:=beq_iff_eq.mpr c3
   clear c3
   obtain rfl:=Option.some.inj H
   go_enter Try.func68,Try.ntmps68
   go_wp2
   go_ret
   exact ⟨by first | rfl | (simp;done) | (simp [*];done),zQ⟩
  ·rw [if_neg c3] at H
   have c3b0:(a0==21)=false:=beq_eq_false_iff_ne.mpr c3
   obtain rfl:=Option.some.inj H
   go_enter Try.func68,Try.ntmps68
   go_wp2
   go_ret
   exact ⟨by first | rfl | (simp;done) | (simp [*];done),zQ⟩
end Go.Proofs.Ytkjdblbgmomieaa.PSh
end
-- from YtkjdblbgmomieaaLiDig
section
namespace Go.Proofs.Ytkjdblbgmomieaa.DigLaw
set_option linter.unusedSimpArgs false
open Go.RowKit Go.Proofs.YtkjdblbgmomieaaW.PrintWords Go.Proofs.YtkjdblbgmomieaaW.PrintLast Go.Proofs.YtkjdblbgmomieaaW.PrintMore Go.Proofs.Ytkjdblbgmomieaa.Str Go.Proofs.Ytkjdblbgmomieaa.Dig Go.Proofs.Ytkjdblbgmomieaa.PSh
def isD (c:UInt8):Bool:=decide (48≤c.toNat) && decide (c.toNat≤57)
def vn (n:Nat) (c:UInt8):Nat:=n * 10+(c.toNat - 48)
def valD (v:Nat) (l:List UInt8):Nat:=l.foldl vn v
def fin (low:Bool) (V:Nat):Int × Int:=if 9223372036854775808<V∨low=false∧V=9223372036854775808 then (0,18) else if low=true then (-(V:Int),0) else ((V:Int),0)
def finish (low:Bool) (rest:List UInt8) (v:Nat):Int × Int:=if rest.all isD=true then fin low (valD v rest) else (0,3)
def badD (low:Bool) (t:List UInt8):Bool:=t.isEmpty || decide (1<t.length) && t.head?==some 48 || low && t==[48]
def parseT (low:Bool) (t:List UInt8):Int × Int:=if badD low t=true then (0,3) else finish low t 0
def parseL (l:List UInt8):Int × Int:=if l.head?=some 45 then parseT true l.tail else parseT false l
theorem isD_iff (c:UInt8):isD c=true↔48≤c.toNat∧c.toNat≤57:=by unfold isD;rw [Bool.and_eq_true,decide_eq_true_iff,decide_eq_true_iff]
theorem valD_cons (v:Nat) (c:UInt8) (l:List UInt8):valD v (c::l)=valD (vn v c) l:=List.foldl_cons ..
theorem valD_ge:∀ (l:List UInt8) (v:Nat),v≤valD v l:=by
  intro l
  induction l with
  | nil=>intro v;exact Nat.le_refl _
  | cons c l ih=>
    intro v
    have h1:v≤vn v c:=by unfold vn;omega
    rw [valD_cons]
    exact Nat.le_trans h1 (ih (vn v c))
theorem j5_ev (low:Bool) (n:Int) (v:Nat) (hv:v≤9223372036854775808) (hn:n=-(v:Int)):
    Ev (fun k=>digits_Parse.j5 k low n (!low && n==-9223372036854775808)) (fin low v):=by
  refine Ev.step (f:=fun _=>some (fin low v)) (fun k=>?_) (Ev.now _)
  unfold digits_Parse.j5 fin
  subst hn
  by_cases h:v=9223372036854775808
  · subst h
    cases low<;>simp
  · have h1:¬ 9223372036854775808<v:=by omega
    have h2:(-(v:Int)==-9223372036854775808)=false:=by rw [beq_eq_false_iff_ne];omega
    have h3:wrap64 (v:Int)=(v:Int):=by unfold wrap64;omega
    cases low<;>simp [h,h1,h2,h3]
theorem parse_loop (low:Bool):∀ (rest pre:List UInt8) (v:Nat) (far:Bool) (n:Int),(pre++rest).length≤4611686018427387904→far=decide (9223372036854775808<v)→(far=false→n=-(v:Int))→
    Ev (fun k=>digits_Parse.l0 k low (mk (pre++rest)) n far (pre.length:Int)) (finish low rest v):=by
  intro rest
  induction rest with
  | nil=>
    intro pre v far n hl hf hn
    have hsz:¬ ((pre.length:Int)<((mk (pre++[])).size:Int)):=by rw [mk_size];simp
    refine Ev.step (f:=fun k=>if far=true then digits_Parse.j5 k low n true else if low=true then digits_Parse.j5 k low n false else digits_Parse.j5 k low n (n==-9223372036854775808)) (fun k=>by simp only [digits_Parse.l0];rw [if_neg hsz]) ?_
    have e:finish low [] v=fin low v:=by simp [finish,valD]
    rw [e]
    cases far with
    | true=>
      have hv:9223372036854775808<v:=by simpa using hf.symm
      refine ev_pos rfl (Ev.step (f:=fun _=>some (0,18)) (fun k=>by simp [digits_Parse.j5]) ?_)
      have:fin low v=(0,18):=by unfold fin;rw [if_pos (.inl hv)]
      rw [this];exact Ev.now _
    | false=>
      have hv:v≤9223372036854775808:=by have:=of_decide_eq_false hf.symm;omega
      refine ev_neg (by simp) ?_
      have:=j5_ev low n v hv (hn rfl)
      cases low with
      | true=>exact ev_pos rfl (by simpa using this)
      | false=>exact ev_neg (by simp) (by simpa using this)
  | cons c rest ih=>
    intro pre v far n hl hf hn
    have hsz:(pre.length:Int)<((mk (pre++c::rest)).size:Int):=by rw [mk_size];simp;omega
    have hb:=bt_pre pre rest c
    have hc:=UInt8.toNat_lt c
    refine Ev.step (f:=fun k=>if (c.toNat:Int)<48 then digits_Parse.j4 k low (mk (pre++c::rest)) n far pre.length c.toNat true else digits_Parse.j4 k low (mk (pre++c::rest)) n far pre.length c.toNat (decide ((c.toNat:Int)>57))) (fun k=>by simp only [digits_Parse.l0];rw [if_pos hsz,if_pos (by omega),hb]) ?_
    by_cases hd:isD c=true
    · obtain ⟨h48,h57⟩:=(isD_iff c).1 hd
      have e57:decide ((c.toNat:Int)>57)=false:=decide_eq_false (by omega)
      refine ev_neg (by omega) ?_
      rw [e57]
      have hw:wrap64 ((pre.length:Int)+1)=((pre++[c]).length:Int):=by
        rw [w64 (by omega) (by simp at hl;omega)];simp
      have hm:((c.toNat:Int) - 48) % 256=((c.toNat - 48:Nat):Int):=by omega
      have hfin:finish low (c::rest) v=finish low rest (vn v c):=by simp [finish,hd,valD_cons]
      have hpre:pre++c::rest=(pre++[c])++rest:=by simp
      rw [hfin,hpre]
      have hl':((pre++[c])++rest).length≤4611686018427387904:=by rw [← hpre];exact hl
      cases far with
      | true=>
        have hv:9223372036854775808<v:=by simpa using hf.symm
        refine Ev.step (f:=fun k=>digits_Parse.l0 k low (mk ((pre++[c])++rest)) n true ((pre++[c]).length:Int)) (fun k=>by simp only [digits_Parse.j4,Bool.false_eq_true,if_false,if_true];rw [hw]) ?_
        exact ih (pre++[c]) (vn v c) true n hl' (by unfold vn;rw [decide_eq_true (by omega)]) (by simp)
      | false=>
        have hv:v≤9223372036854775808:=by have:=of_decide_eq_false hf.symm;omega
        obtain rfl:=hn rfl
        have ht:(-9223372036854775808+((c.toNat - 48:Nat):Int)).tdiv 10=-(((9223372036854775808 - (c.toNat - 48)) / 10:Nat):Int):=by
          have e1:-9223372036854775808+((c.toNat - 48:Nat):Int)=-((9223372036854775808 - (c.toNat - 48):Nat):Int):=by omega
          rw [e1,Int.neg_tdiv]
          rfl
        by_cases hfar:9223372036854775808<vn v c
        · refine Ev.step (f:=fun k=>digits_Parse.l0 k low (mk ((pre++[c])++rest)) (-(v:Int)) true ((pre++[c]).length:Int)) (fun k=>by simp only [digits_Parse.j4,Bool.false_eq_true,if_false,if_true];rw [hm,if_pos (by rw [ht];unfold vn at hfar;omega),hw]) ?_
          exact ih (pre++[c]) (vn v c) true _ hl' (by rw [decide_eq_true hfar]) (by simp)
        · refine Ev.step (f:=fun k=>digits_Parse.l0 k low (mk ((pre++[c])++rest)) (-((vn v c:Nat):Int)) false ((pre++[c]).length:Int)) (fun k=>?_) (ih (pre++[c]) (vn v c) false _ hl' (by rw [decide_eq_false hfar]) (fun _=>rfl))
          simp only [digits_Parse.j4,Bool.false_eq_true,if_false,if_true]
          rw [hm,if_neg (by rw [ht];unfold vn at hfar;omega),hw]
          congr 1
          unfold vn at hfar ⊢
          unfold wrap64
          omega
    · have hfin:finish low (c::rest) v=(0,3):=by simp [finish,hd]
      rw [hfin]
      by_cases h48:(c.toNat:Int)<48
      · exact ev_pos h48 (Ev.step (f:=fun _=>some (0,3)) (fun k=>by simp [digits_Parse.j4]) (Ev.now _))
      · have h57:decide ((c.toNat:Int)>57)=true:=by
          refine decide_eq_true ?_
          have:¬ (48≤c.toNat∧c.toNat≤57):=fun h=>hd ((isD_iff c).2 h)
          omega
        refine ev_neg h48 ?_
        rw [h57]
        exact Ev.step (f:=fun _=>some (0,3)) (fun k=>by simp [digits_Parse.j4]) (Ev.now _)
theorem j2_ev (low:Bool) (t:List UInt8) (bad:Bool) (hl:t.length≤4611686018427387904) (hb:bad=badD low t):Ev (fun k=>digits_Parse.j2 k low (mk t) bad) (parseT low t):=by
  unfold parseT
  rw [← hb]
  cases bad with
  | true=>exact Ev.step (f:=fun _=>some (0,3)) (fun k=>by simp [digits_Parse.j2]) (Ev.now _)
  | false=>exact Ev.step (f:=fun k=>digits_Parse.l0 k low (mk ([]++t)) 0 false (([]:List UInt8).length:Int)) (fun k=>by simp [digits_Parse.j2]) (parse_loop low t [] 0 false 0 hl (by simp) (by simp))
theorem j1_ev (low:Bool) (t:List UInt8) (hl:t.length≤4611686018427387904):Ev (fun k=>digits_Parse.j1 k low (mk t)) (parseT low t):=by
  have key:∀ bad,bad=badD low t→Ev (fun k=>digits_Parse.j2 k low (mk t) bad) (parseT low t):=fun bad=>j2_ev low t bad hl
  cases t with
  | nil=>exact Ev.step (f:=fun k=>digits_Parse.j2 k low (mk []) true) (fun k=>by simp [digits_Parse.j1,mk_size]) (key true (by simp [badD]))
  | cons c t=>
    have hb:=bt_head c t
    refine Ev.step (f:=fun k=>if (((c::t).length:Nat):Int)>1 then (if (c.toNat:Int)=48 then digits_Parse.j2 k low (mk (c::t)) true else if low=true then digits_Parse.j2 k low (mk (c::t)) ((c::t)==[48]) else digits_Parse.j2 k low (mk (c::t)) false) else if low=true then digits_Parse.j2 k low (mk (c::t)) ((c::t)==[48]) else digits_Parse.j2 k low (mk (c::t)) false) (fun k=>by
      simp only [digits_Parse.j1,mk_size,mk_toList,hb]
      rw [if_neg (by simp;omega)]
      by_cases h1:(((c::t).length:Nat):Int)>1
      · rw [if_pos h1,if_pos h1,if_pos (by omega)]
      · rw [if_neg h1,if_neg h1]) ?_
    have hc48:(c.toNat:Int)=48↔c=48:=by
      constructor
      · intro h;apply UInt8.toNat_inj.1;simpa using (by omega:c.toNat=48)
      · rintro rfl;rfl
    refine ev_if (fun h1=>ev_if (fun h2=>key _ ?_) fun h2=>?_) fun h1=>?_
    · have h3:=hc48.1 h2
      have h4:1<(c::t).length:=by omega
      simp [badD,h3] at h4 ⊢
      exact .inl (by omega)
    · have h3:¬ c=48:=fun h=>h2 (hc48.2 h)
      cases low with
      | true=>exact ev_pos rfl (key _ (by simp [badD,h3]))
      | false=>exact ev_neg (by simp) (key _ (by simp [badD,h3]))
    · have h4:t=[]:=by
        cases t with
        | nil=>rfl
        | cons=>simp at h1;omega
      subst h4
      cases low with
      | true=>exact ev_pos rfl (key _ (by simp [badD]))
      | false=>exact ev_neg (by simp) (key _ (by simp [badD]))
theorem parse_ev (l:List UInt8) (hl:l.length≤4611686018427387904):Ev (fun k=>digits_Parse.f k (mk l)) (parseL l):=by
  unfold digits_Parse.f
  have hj0:∀ low,(low=true→l.head?=some 45)→(low=false→l.head?≠some 45)→Ev (fun k=>digits_Parse.j0 k (mk l) low) (parseL l):=by
    intro low h1 h2
    cases low with
    | true=>
      cases l with
      | nil=>simp at h1
      | cons c t=>
        refine Ev.step (f:=fun k=>digits_Parse.j1 k true (mk t)) (fun k=>?_) ?_
        · simp only [digits_Parse.j0,mk_from,if_true]
          rw [if_pos (by rw [mk_size];simp;omega)]
          rfl
        · have e:parseL (c::t)=parseT true t:=by unfold parseL;rw [if_pos (h1 rfl)];rfl
          rw [e]
          exact j1_ev true t (by simp at hl;omega)
    | false=>
      refine Ev.step (f:=fun k=>digits_Parse.j1 k false (mk l)) (fun k=>by simp [digits_Parse.j0]) ?_
      have e:parseL l=parseT false l:=by unfold parseL;rw [if_neg (h2 rfl)]
      rw [e]
      exact j1_ev false l hl
  cases l with
  | nil=>exact ev_neg (by rw [mk_size];simp) (hj0 false (by simp) (by simp))
  | cons c t=>
    refine ev_pos (by rw [mk_size];simp) (ev_pos (by rw [mk_size];simp) ?_)
    rw [bt_head]
    have hc45:((c.toNat:Int)==45)=true↔c=45:=by
      rw [beq_iff_eq]
      constructor
      · intro h;apply UInt8.toNat_inj.1;simpa using (by omega:c.toNat=45)
      · rintro rfl;rfl
    refine hj0 _ (fun h=>by simp [hc45.1 h]) (fun h h'=>?_)
    have:c=45:=by simpa using h'
    rw [hc45.2 this] at h
    cases h
theorem dig_nat (d:Nat) (h:d<10):(UInt8.ofNat (48+d)).toNat=48+d:=by
  rw [UInt8.toNat_ofNat'];omega
theorem index_ev (l:List UInt8) (hl:l.length≤4611686018427387904) (most:Int):Ev (fun k=>digits_Index.f k (mk l) most) (if (parseL l).2=0 then (if (parseL l).1<0∨(parseL l).1>most then (0,18) else ((parseL l).1,0)) else (0,(parseL l).2)):=by
  unfold digits_Index.f
  refine Ev.bind (f:=fun _ bt=>if bt.2=0 then (if bt.1<0 then some (0,18) else if bt.1>most then some (0,18) else some (bt.1,0)) else some (0,bt.2)) (parse_ev l hl) ?_
  refine ev_if (fun h=>?_) (fun h=>?_)
  · rw [if_pos h]
    refine ev_if (fun h1=>?_) (fun h1=>ev_if (fun h2=>?_) (fun h2=>?_))
    · rw [if_pos (.inl h1)];exact Ev.now _
    · rw [if_pos (.inr h2)];exact Ev.now _
    · rw [if_neg (by omega)];exact Ev.now _
  · rw [if_neg h];exact Ev.now _
end Go.Proofs.Ytkjdblbgmomieaa.DigLaw
end
-- from YtkjdblbgmomieaaHRows
section
namespace Go.Proofs.Ytkjdblbgmomieaa.PSh
set_option maxHeartbeats 4000000
set_option maxRecDepth 100000
open Go.RowKit Go.Proofs.YtkjdblbgmomieaaW.PrintWords Go.Proofs.YtkjdblbgmomieaaW.PrintLast Go.Proofs.YtkjdblbgmomieaaW.PrintMore Go.Proofs.Ytkjdblbgmomieaa.Str
set_option linter.unusedVariables false
set_option linter.unusedSimpArgs false
structure OpRow where
  w:ByteArray
  t0:Int
  t1:Int
  m:Int
  traps:Bool
  reads:Bool
  writes:Bool
  seen:Bool
  ends:Bool
def noRow:OpRow:=⟨mk [],0,0,0,false,false,false,false,false⟩
def opRows:List OpRow:=[
  ⟨mk [],0,0,0,false,false,false,false,false⟩,
  ⟨mk [99,111,110,115,116],0,0,1,false,false,false,false,false⟩,
  ⟨mk [97,100,100],1,1,1,false,false,false,false,false⟩,
  ⟨mk [115,117,98],1,1,1,false,false,false,false,false⟩,
  ⟨mk [109,117,108],1,1,1,false,false,false,false,false⟩,
  ⟨mk [100,105,118],1,1,1,true,false,false,false,false⟩,
  ⟨mk [108,116],1,1,1,false,false,false,false,false⟩,
  ⟨mk [101,113],1,1,1,false,false,false,false,false⟩,
  ⟨mk [110,105,108],0,0,2,false,false,false,false,false⟩,
  ⟨mk [115,97,109,101],2,2,1,false,false,false,false,false⟩,
  ⟨mk [110,101,119],0,0,2,false,false,false,false,false⟩,
  ⟨mk [108,111,97,100,46,105],2,0,1,true,true,false,false,false⟩,
  ⟨mk [108,111,97,100,46,112],2,0,2,true,true,false,false,false⟩,
  ⟨mk [115,116,111,114,101,46,105],2,1,0,true,false,true,true,false⟩,
  ⟨mk [115,116,111,114,101,46,112],2,2,0,true,false,true,true,false⟩,
  ⟨mk [115,108,111,116],2,0,3,true,false,false,false,false⟩,
  ⟨mk [103,101,116,46,105],3,0,1,true,true,false,false,false⟩,
  ⟨mk [103,101,116,46,112],3,0,2,true,true,false,false,false⟩,
  ⟨mk [112,117,116,46,105],3,1,0,true,false,true,true,false⟩,
  ⟨mk [112,117,116,46,112],3,2,0,true,false,true,true,false⟩,
  ⟨mk [112,104,105],0,0,0,false,false,false,false,false⟩,
  ⟨mk [99,97,108,108],0,0,0,true,true,true,true,false⟩,
  ⟨mk [111,117,116],1,0,0,false,false,false,true,false⟩,
  ⟨mk [112,111,108,108],0,0,0,false,false,false,true,false⟩,
  ⟨mk [114,101,108,111,99],0,0,0,false,false,false,false,false⟩,
  ⟨mk [109,97,114,107],2,0,0,false,false,false,true,false⟩,
  ⟨mk [98,114],0,0,0,false,false,false,true,true⟩,
  ⟨mk [105,102],1,0,0,false,false,false,true,true⟩,
  ⟨mk [114,101,116],0,0,0,false,false,false,true,true⟩,
  ⟨mk [102,97,105,108],0,0,0,true,false,false,true,true⟩]
def rowCells (r:OpRow):List Value:=[.string r.w,.int .i64 r.t0,.int .i64 r.t1,.int .i64 r.m,.bool r.traps,.bool r.reads,.bool r.writes,.bool r.seen,.bool r.ends]
def rowsV:Array Value:=(opRows.flatMap rowCells).toArray
def zerosV:Array Value:=((List.replicate 30 noRow).flatMap rowCells).toArray
theorem wpList_buildTo1 {P:Program} {ops:Array Oper} {rest:List Oper} {o:Oper} {a:Act} {w:World} {Q:Exit→Act→World→Prop} (hg:o.guard=none) (t:TypeId) (parts:Array (Nat × Operand)) (ho:o.op=.build t parts) (cells:Array Value)
    (hf:P.built t (parts.map fun (i,x)=>(i,a.eval x)).toList=some cells)
    (h:wpList P ops Q rest (a.put o.dst (.agg cells)) w):wpList P ops Q (o::rest) a w:=by
  refine wpList_build hg t parts ho ?_ ?_
  · rw [hf];rfl
  · rw [hf];exact h
theorem wpList_store_newR {P:Program} {ops:Array Oper} {rest:List Oper} {o:Oper} {a:Act} {w:World} {Q:Exit→Act→World→Prop} (hgd:o.guard=none) (ty:TypeId) (x y:Operand) (ho:o.op=.store ty x y)
    (old cells:Array Value) (hx:a.eval x=.pointer (some ⟨w.heap.size,0,none⟩)) (hy:a.eval y=.agg cells)
    (t:TypeId) (hi:(P.info? ty).map (·.size)=some cells.size) (hold:old.size=cells.size) (h1:cells.all (·.oneCell')=true)
    (h:wpList P ops Q rest (a.put o.dst undef) (w.alloc (.cells cells t))):wpList P ops Q (o::rest) a (w.alloc (.cells old t)):=by
  refine wpList_store_row hgd ty x y ho w.heap.size cells hx hy t old (heap_alloc_last _ _) hi hold h1 ?_
  rw [World.setRow_alloc_new]
  exact h
theorem ops_rows.calls (w:World):Calls Try.prog 93 #[] w fun e w'=>e=.returned (.agg rowsV)∧Below w.heap.size w w':=by
  have hz:=(zero_of_info (P:=Try.prog) (t:=114) (v:=.agg zerosV) (n:=270) (by kernel_rfl)).1
  go_enter Try.func93,Try.ntmps93
  go_wp2_with (first | ((with_reducible refine gate_dst (N:=49) rfl ?_);refine wpList_buildTo1 rfl 114 _ rfl rowsV (by kernel_rfl) ?_) | ((with_reducible refine gate_store (t:=114) (p:=0) (v:=.tmp 49) rfl ?_);refine wpList_store_newR rfl 114 (.tmp 0) (.tmp 49) rfl zerosV rowsV rfl rfl 114 (by kernel_rfl) (by kernel_rfl) (by kernel_rfl) ?_))
  refine bodyPost_ret (results_single rfl (Vals.cell w.heap.size 114 rowsV (0,0) _ rfl (blk_new w _) Try.underlying114 rfl (by kernel_rfl) Vals.nil)) rfl ⟨rfl,below_alloc (Below.refl _ _) _⟩
end Go.Proofs.Ytkjdblbgmomieaa.PSh
end
-- from YtkjdblbgmomieaaHOf
section
namespace Go.Proofs.Ytkjdblbgmomieaa.PSh
set_option maxHeartbeats 4000000
set_option maxRecDepth 100000
open Go.RowKit Go.Proofs.YtkjdblbgmomieaaW.PrintWords Go.Proofs.YtkjdblbgmomieaaW.PrintLast Go.Proofs.YtkjdblbgmomieaaW.PrintMore Go.Proofs.Ytkjdblbgmomieaa.Str
set_option linter.unusedVariables false
set_option linter.unusedSimpArgs false
theorem run_index_rows (n:Nat) (hn:n<30) (w:World):(Instr.index 114 (.agg rowsV) (.int .i64 n)).run Try.prog w=.ok (.agg (rowCells (opRows.getD n noRow)).toArray) w:=by
  have h:n=0∨n=1∨n=2∨n=3∨n=4∨n=5∨n=6∨n=7∨n=8∨n=9∨n=10∨n=11∨n=12∨n=13∨n=14∨n=15∨n=16∨n=17∨n=18∨n=19∨n=20∨n=21∨n=22∨n=23∨n=24∨n=25∨n=26∨n=27∨n=28∨n=29:=by omega
  rcases h with rfl | rfl | rfl | rfl | rfl | rfl | rfl | rfl | rfl | rfl | rfl | rfl | rfl | rfl | rfl | rfl | rfl | rfl | rfl | rfl | rfl | rfl | rfl | rfl | rfl | rfl | rfl | rfl | rfl | rfl<;>(show _=_;kernel_rfl)
def opOf (op:Int):OpRow:=if op<1∨29<op then noRow else opRows.getD op.toNat noRow
def ops_of.f (a0:Int):Option (ByteArray × Int × Int × Int × Bool × Bool × Bool × Bool × Bool):=
  some ((opOf a0).w,(opOf a0).t0,(opOf a0).t1,(opOf a0).m,(opOf a0).traps,(opOf a0).reads,(opOf a0).writes,(opOf a0).seen,(opOf a0).ends)
theorem of_calls (a0:Int) (w:World):Calls Try.prog 69 #[.int .i64 a0] w fun e w'=>e=.returned (.agg (rowCells (opOf a0)).toArray)∧Below w.heap.size w w':=by
  by_cases h1:a0<1
  · have d1:decide (a0<1)=true:=decide_eq_true h1
    have e:opOf a0=noRow:=if_pos (.inl h1)
    rw [e]
    clear e h1
    go_enter Try.func69,Try.ntmps69
    go_wp2
    refine bodyPost_ret (results_single rfl (Vals.cell w.heap.size 96 (rowCells noRow).toArray (0,0) _ rfl (blk_new w _) Try.underlying96 rfl (by kernel_rfl) Vals.nil)) rfl ⟨rfl,below_alloc (Below.refl _ _) _⟩
  · have d1:decide (a0<1)=false:=decide_eq_false h1
    by_cases h2:29<a0
    · have d2:decide (29<a0)=true:=decide_eq_true h2
      have e:opOf a0=noRow:=if_pos (.inr h2)
      rw [e]
      clear e h1 h2
      go_enter Try.func69,Try.ntmps69
      go_wp2
      refine bodyPost_ret (results_single rfl (Vals.cell w.heap.size 96 (rowCells noRow).toArray (0,0) _ rfl (blk_new w _) Try.underlying96 rfl (by kernel_rfl) Vals.nil)) rfl ⟨rfl,below_alloc (Below.refl _ _) _⟩
    · have d2:decide (29<a0)=false:=decide_eq_false h2
      obtain ⟨n,rfl⟩:∃ n:Nat,a0=n:=⟨a0.toNat,by omega⟩
      have hn:n<30:=by omega
      obtain ⟨r,hr⟩:∃ r,opRows.getD n noRow=r:=⟨_,rfl⟩
      have hix:∀ W,(Instr.index 114 (.agg rowsV) (.int .i64 n)).run Try.prog W=.ok (.agg (rowCells r).toArray) W:=fun W=>hr ▸ run_index_rows n hn W
      have e:opOf (n:Int)=opRows.getD n noRow:=if_neg (by omega)
      rw [e,hr]
      clear e h1 h2 hr
      go_enter Try.func69,Try.ntmps69
      go_wp2_with fail
      refine (ops_rows.calls _).mono ?_
      rintro e w1 ⟨rfl,hb⟩
      have HB:=aM hb
      have h1:=blk_below (blk_new w (.cells #[.string ⟨#[]⟩,.int .i64 0,.int .i64 0,.int .i64 0,.bool false,.bool false,.bool false,.bool false,.bool false] 96)) hb
      have H1:=aM h1
      have HB:=aM (below_step (below_alloc (Below.refl _ _) _) hb)
      clear h1 hb
      go_wp2_with (first | ((with_reducible refine gate_store (t:=96) (p:=2) (v:=.tmp 12) rfl ?_);refine wpList_store_row rfl 96 (.tmp 2) (.tmp 12) rfl w.heap.size (rowCells r).toArray rfl rfl 96 _ H1.out (by kernel_rfl) rfl (by simp [rowCells,Value.oneCell']) ?_))
      refine bodyPost_ret (results_single rfl (Vals.cell w.heap.size 96 (rowCells r).toArray (0,0) _ rfl (setRow_heap _ _ _ _ _ _ H1.out) Try.underlying96 rfl (by kernel_rfl) Vals.nil)) rfl ⟨rfl,below_setRow HB.out (Nat.le_refl _) _⟩
theorem ops_of.calls (a0:Int) (r1:ByteArray) (r2 r3 r4:Int) (r5 r6 r7 r8 r9:Bool) (w:World) (h:ops_of.f a0=some (r1,r2,r3,r4,r5,r6,r7,r8,r9)):
    Calls Try.prog 69 #[.int .i64 a0] w fun e w'=>e=.returned (.agg #[.string r1,.int .i64 r2,.int .i64 r3,.int .i64 r4,.bool r5,.bool r6,.bool r7,.bool r8,.bool r9])∧Below w.heap.size w w':=by
  have h0:=Option.some.inj h
  simp only [Prod.mk.injEq] at h0
  obtain ⟨rfl,rfl,rfl,rfl,rfl,rfl,rfl,rfl,rfl⟩:=h0
  exact of_calls a0 w
end Go.Proofs.Ytkjdblbgmomieaa.PSh
end
-- from YtkjdblbgmomieaaPShx11
section
namespace Go.Proofs.Ytkjdblbgmomieaa.PSh
set_option maxHeartbeats 8000000
set_option maxRecDepth 100000
open Go.RowKit Go.Proofs.YtkjdblbgmomieaaW.PrintWords Go.Proofs.YtkjdblbgmomieaaW.PrintLast Go.Proofs.YtkjdblbgmomieaaW.PrintMore Go.Proofs.Ytkjdblbgmomieaa.Zip
attribute [local go_sem] max2_int min2_int max_two min_two max_three min_three max_four min_four   -- for this text's walks alone
set_option linter.unusedVariables false
set_option linter.unusedSimpArgs false
def ops_Makes.f (a0_0:Int) (a0_1:Int) (a0_2:Int) (a0_3:Int) (l0_4:List Int) (l0_5:List Int) (a0_6:ByteArray) (a0_7:Int):Option (Int):=(ops_typed.f a0_0).bind fun t177=>(if t177=true then (some a0_3) else ((ops_of.f a0_0).bind fun bt178=>(some bt178.2.2.2.1)))
theorem ops_Makes.calls (a0_0:Int) (a0_1:Int) (a0_2:Int) (a0_3:Int) (A0_4:Option Addr) (c0_4:Nat) (l0_4:List Int) (A0_5:Option Addr) (c0_5:Nat) (l0_5:List Int) (a0_6:ByteArray) (a0_7:Int) (r:Int) (w:World) (hr0_4:Kd.C (Kd.int .i64) w A0_4 l0_4.length l0_4) (hc0_4:l0_4.length≤c0_4) (hr0_5:Kd.C (Kd.int .i64) w A0_5 l0_5.length l0_5) (hc0_5:l0_5.length≤c0_5) (h:ops_Makes.f a0_0 a0_1 a0_2 a0_3 l0_4 l0_5 a0_6 a0_7=some r):
  Calls Try.prog 40 #[.agg #[.int .i64 a0_0,.int .i64 a0_1,.int .i64 a0_2,.int .i64 a0_3,.slice A0_4 l0_4.length c0_4,.slice A0_5 l0_5.length c0_5,.string a0_6,.int .i64 a0_7]] w fun e w'=>e=.returned (.int .i64 r)∧Below w.heap.size w w':=by
 have hfl96_2:∀ (u0 u1 u2 u3 u4 u5 u6 u7 u8:Value) (W:World),(Instr.field 96 (.agg #[u0,u1,u2,u3,u4,u5,u6,u7,u8]) 2).run Try.prog W=.ok (u3) W:=fun _ _ _ _ _ _ _ _ _ _=>by show _=_;kernel_rfl
 clear hr0_4 hc0_4 hr0_5 hc0_5
 have HB:=aM (Below.refl w.heap.size w)
 have H:((ops_typed.f a0_0).bind fun t177=>(if t177=true then (some a0_3) else ((ops_of.f a0_0).bind fun bt178=>(some bt178.2.2.2.1))))=some r:=h
 clear h
 replace H:=Option.bind_eq_some_iff.mp H
 obtain ⟨t177,A20,H⟩:=H
 have A2:=aM A20
 clear A20
 by_cases c3:t177=true
 ·subst c3
  have H1:(some a0_3)=some r:=by rw [if_pos rfl] at H;exact H
  clear H
  have H:=H1
  clear H1
  obtain rfl:=Option.some.inj H
  go_enter Try.func40,Try.ntmps40
  go_wp2_with (first | ((with_reducible refine gate_dst (N:=1) rfl ?_);refine box_event ?hg (N:=1) ?hd (cs:=#[.int .i64 a0_0,.int .i64 a0_1,.int .i64 a0_2,.int .i64 a0_3,.slice A0_4 l0_4.length c0_4,.slice A0_5 l0_5.length c0_5,.string a0_6,.int .i64 a0_7]) (t:=39) ?hr ?_;(case hd=>rfl);(case hg=>rfl);(case hr=>first | (go_simp;done) | (go_simp;rfl));intro gb176 hg w4 hbox hb;have n0_:=aM (below_step (zB HB.out) hb);have n1_:=aM (hbox);have n2_:=aM ((by rw [hg];exact (below_size (zB HB.out)):w.heap.size≤gb176));have n3_:=aM ((by rw [hg];exact (below_size (zB HB.out)):w.heap.size≤gb176));clear HB;have HB:=n0_;have BK176:=n1_;have GE176:=n3_;clear n0_ n1_ n2_ n3_;clear hb hbox hg;have hcz5_0:w4.cell? ⟨gb176,0,none⟩=some (.int .i64 a0_0):=(blk_cell BK176.out 0).trans rfl;have hcz5_3:w4.cell? ⟨gb176,3,none⟩=some (.int .i64 a0_3):=(blk_cell BK176.out 3).trans rfl) | ((with_reducible refine gate_callee (f:=68) rfl ?_);refine goesL_ (some 5) rfl rfl Try.func68 (by kernel_rfl) rfl #[.int .i64 a0_0] rfl zA ?_;(with_reducible refine (ops_typed.calls a0_0 true _ A2.out).mono ?_);rintro e w' ⟨rfl,⟨nd,rfl⟩⟩;refine ⟨_,rfl,?_⟩))
  go_ret
  exact ⟨zF,zC HB.out GE176.out⟩
 ·replace c3:=Bool.eq_false_iff.mpr c3
  subst c3
  have H1:((ops_of.f a0_0).bind fun bt178=>(some bt178.2.2.2.1))=some r:=by rw [if_neg (show ¬ (false=true) by decide)] at H;exact H
  clear H
  have H:=H1
  clear H1
  replace H:=Option.bind_eq_some_iff.mp H
  obtain ⟨⟨t178,t179,t180,t181,t182,t183,t184,t185,t186⟩,A60,H⟩:=H
  have A6:=aM A60
  clear A60
  obtain rfl:=Option.some.inj H
  go_enter Try.func40,Try.ntmps40
  go_wp2_with (first | ((with_reducible refine gate_dst (N:=1) rfl ?_);refine box_event ?hg (N:=1) ?hd (cs:=#[.int .i64 a0_0,.int .i64 a0_1,.int .i64 a0_2,.int .i64 a0_3,.slice A0_4 l0_4.length c0_4,.slice A0_5 l0_5.length c0_5,.string a0_6,.int .i64 a0_7]) (t:=39) ?hr ?_;(case hd=>rfl);(case hg=>rfl);(case hr=>first | (go_simp;done) | (go_simp;rfl));intro gb176 hg w7 hbox hb;have n0_:=aM (below_step (zB HB.out) hb);have n1_:=aM (hbox);have n2_:=aM ((by rw [hg];exact (below_size (zB HB.out)):w.heap.size≤gb176));have n3_:=aM ((by rw [hg];exact (below_size (zB HB.out)):w.heap.size≤gb176));clear HB;have HB:=n0_;have BK176:=n1_;have GE176:=n3_;clear n0_ n1_ n2_ n3_;clear hb hbox hg;have hcz8_0:w7.cell? ⟨gb176,0,none⟩=some (.int .i64 a0_0):=(blk_cell BK176.out 0).trans rfl) | ((with_reducible refine gate_callee (f:=68) rfl ?_);refine goesL_ (some 5) rfl rfl Try.func68 (by kernel_rfl) rfl #[.int .i64 a0_0] rfl zA ?_;(with_reducible refine (ops_typed.calls a0_0 false _ A2.out).mono ?_);rintro e w' ⟨rfl,⟨nd,rfl⟩⟩;refine ⟨_,rfl,?_⟩) | ((with_reducible refine gate_callee (f:=69) rfl ?_);refine goesL_ (some 10) rfl rfl Try.func69 (by kernel_rfl) rfl #[.int .i64 a0_0] rfl zA ?_;(with_reducible refine (ops_of.calls a0_0 t178 t179 t180 t181 t182 t183 t184 t185 t186 _ A6.out).mono ?_);rintro e w9 ⟨rfl,hb⟩;refine ⟨_,rfl,?_⟩;have n0_:=aM (blk_below (g:=gb176) (o:=.cells #[.int .i64 a0_0,.int .i64 a0_1,.int .i64 a0_2,.int .i64 a0_3,.slice A0_4 l0_4.length c0_4,.slice A0_5 l0_5.length c0_5,.string a0_6,.int .i64 a0_7] 39 (0,0)) (zK BK176.out) hb);have n1_:=aM (below_step (zC HB.out GE176.out) hb);clear BK176;clear HB;have BK176:=n0_;have HB:=n1_;clear n0_ n1_;(try clear hb);(try clear hb2);(try clear hk);(try clear hi)))
  go_ret
  exact ⟨zF,zC HB.out GE176.out⟩
def ops_Letter.f (a0:Int):Option (ByteArray):=if a0=1 then (some (⟨#[105]⟩:ByteArray)) else (if a0=2 then (some (⟨#[112]⟩:ByteArray)) else (if a0=3 then (some (⟨#[100]⟩:ByteArray)) else (some (⟨#[110]⟩:ByteArray))))
theorem ops_Letter.calls (a0:Int) (r:ByteArray) (w:World) (h:ops_Letter.f a0=some r):
  Calls Try.prog 30 #[.int .i64 a0] w fun e w'=>e=.returned (.string r)∧Drawn0 w w':=by
 have H:(if a0=1 then (some (⟨#[105]⟩:ByteArray)) else (if a0=2 then (some (⟨#[112]⟩:ByteArray)) else (if a0=3 then (some (⟨#[100]⟩:ByteArray)) else (some (⟨#[110]⟩:ByteArray)))))=some r:=h
 clear h
 by_cases c2:a0=1
 ·rw [if_pos c2] at H
  have c2b0:(a0==1)=true:=beq_iff_eq.mpr c2
  clear c2
  obtain rfl:=Option.some.inj H
  go_enter Try.func30,Try.ntmps30
  go_wp2
  go_ret
  exact ⟨by first | rfl | (simp;done) | (simp [*];done),zQ⟩
 ·rw [if_neg c2] at H
  have c2b0:(a0==1)=false:=beq_eq_false_iff_ne.mpr c2
  by_cases c3:a0=2
  ·rw [if_pos c3] at H
   have c3b0:(a0==2)=true:=beq_iff_eq.mpr c3
   clear c3
   obtain rfl:=Option.some.inj H
   go_enter Try.func30,Try.ntmps30
   go_wp2
   go_ret
   exact ⟨by first | rfl | (simp;done) | (simp [*];done),zQ⟩
  ·rw [if_neg c3] at H
   have c3b0:(a0==2)=false:=beq_eq_false_iff_ne.mpr c3
   by_cases c4:a0=3
   ·rw [if_pos c4] at H
    have c4b0:(a0==3)=true:=beq_iff_eq.mpr c4
    clear c4
    obtain rfl:=Option.some.inj H
    go_enter Try.func30,Try.ntmps30
    go_wp2
    go_ret
    exact ⟨by first | rfl | (simp;done) | (simp [*];done),zQ⟩
   ·rw [if_neg c4] at H
    have c4b0:(a0==3)=false:=beq_eq_false_iff_ne.mpr c4
    obtain rfl:=Option.some.inj H
    go_enter Try.func30,Try.ntmps30
    go_wp2
    go_ret
    exact ⟨by first | rfl | (simp;done) | (simp [*];done),zQ⟩
end Go.Proofs.Ytkjdblbgmomieaa.PSh
end
-- from YtkjdblbgmomieaaPShx15
section
namespace Go.Proofs.Ytkjdblbgmomieaa.PSh
set_option maxHeartbeats 8000000
set_option maxRecDepth 100000
open Go.RowKit Go.Proofs.YtkjdblbgmomieaaW.PrintWords Go.Proofs.YtkjdblbgmomieaaW.PrintLast Go.Proofs.YtkjdblbgmomieaaW.PrintMore Go.Proofs.Ytkjdblbgmomieaa.Zip
attribute [local go_sem] max2_int min2_int max_two min_two max_three min_three max_four min_four   -- for this text's walks alone
set_option linter.unusedVariables false
set_option linter.unusedSimpArgs false
def ops_May.f (a0:Int) (a1:Int):Option (Bool):=if a0=20 then (if a1=1 then (some true) else (if a1=2 then (some true) else (some (a1==3)))) else (if a0=21 then (if a1=0 then (some true) else (if a1=1 then (some true) else (some (a1==2)))) else (if a0=24 then (if a1=2 then (some true) else (some (a1==3))) else (some (a1==0))))
theorem ops_May.calls (a0:Int) (a1:Int) (r:Bool) (w:World) (h:ops_May.f a0 a1=some r):
  Calls Try.prog 47 #[.int .i64 a0,.int .i64 a1] w fun e w'=>e=.returned (.bool r)∧Drawn0 w w':=by
 have H:(if a0=20 then (if a1=1 then (some true) else (if a1=2 then (some true) else (some (a1==3)))) else (if a0=21 then (if a1=0 then (some true) else (if a1=1 then (some true) else (some (a1==2)))) else (if a0=24 then (if a1=2 then (some true) else (some (a1==3))) else (some (a1==0)))))=some r:=h
 clear h
 by_cases c3:a0=20
 ·rw [if_pos c3] at H
  have c3b0:(a0==20)=true:=beq_iff_eq.mpr c3
  clear c3
  by_cases c4:a1=1
  ·rw [if_pos c4] at H
   have c4b0:(a1==1)=true:=beq_iff_eq.mpr c4
   clear c4
   obtain rfl:=Option.some.inj H
   go_enter Try.func47,Try.ntmps47
   go_wp2
   go_ret
   exact ⟨by first | rfl | (simp;done) | (simp [*];done),zQ⟩
  ·rw [if_neg c4] at H
   have c4b0:(a1==1)=false:=beq_eq_false_iff_ne.mpr c4
   by_cases c5:a1=2
   ·rw [if_pos c5] at H
    have c5b0:(a1==2)=true:=beq_iff_eq.mpr c5
    clear c5
    obtain rfl:=Option.some.inj H
    go_enter Try.func47,Try.ntmps47
    go_wp2
    go_ret
    exact ⟨by first | rfl | (simp;done) | (simp [*];done),zQ⟩
   ·rw [if_neg c5] at H
    have c5b0:(a1==2)=false:=beq_eq_false_iff_ne.mpr c5
    obtain rfl:=Option.some.inj H
    go_enter Try.func47,Try.ntmps47
    go_wp2
    go_ret
    exact ⟨by first | rfl | (simp;done) | (simp [*];done),zQ⟩
 ·rw [if_neg c3] at H
  have c3b0:(a0==20)=false:=beq_eq_false_iff_ne.mpr c3
  by_cases c6:a0=21
  ·rw [if_pos c6] at H
   have c6b0:(a0==21)=true:=beq_iff_eq.mpr c6
   clear c6
   by_cases c7:a1=0
   ·rw [if_pos c7] at H
    have c7b0:(a1==0)=true:=beq_iff_eq.mpr c7
    clear c7
    obtain rfl:=Option.some.inj H
    go_enter Try.func47,Try.ntmps47
    go_wp2
    go_ret
    exact ⟨by first | rfl | (simp;done) | (simp [*];done),zQ⟩
   ·rw [if_neg c7] at H
    have c7b0:(a1==0)=false:=beq_eq_false_iff_ne.mpr c7
    by_cases c8:a1=1
    ·rw [if_pos c8] at H
     have c8b0:(a1==1)=true:=beq_iff_eq.mpr c8
     clear c8
     obtain rfl:=Option.some.inj H
     go_enter Try.func47,Try.ntmps47
     go_wp2
     go_ret
     exact ⟨by first | rfl | (simp;done) | (simp [*];done),zQ⟩
    ·rw [if_neg c8] at H
     have c8b0:(a1==1)=false:=beq_eq_false_iff_ne.mpr c8
     obtain rfl:=Option.some.inj H
     go_enter Try.func47,Try.ntmps47
     go_wp2
     go_ret
     exact ⟨by first | rfl | (simp;done) | (simp [*];done),zQ⟩
  ·rw [if_neg c6] at H
   have c6b0:(a0==21)=false:=beq_eq_false_iff_ne.mpr c6
   by_cases c9:a0=24
   ·rw [if_pos c9] at H
    have c9b0:(a0==24)=true:=beq_iff_eq.mpr c9
    clear c9
    by_cases c10:a1=2
    ·rw [if_pos c10] at H
     have c10b0:(a1==2)=true:=beq_iff_eq.mpr c10
     clear c10
     obtain rfl:=Option.some.inj H
     go_enter Try.func47,Try.ntmps47
     go_wp2
     go_ret
     exact ⟨by first | rfl | (simp;done) | (simp [*];done),zQ⟩
    ·rw [if_neg c10] at H
     have c10b0:(a1==2)=false:=beq_eq_false_iff_ne.mpr c10
     obtain rfl:=Option.some.inj H
     go_enter Try.func47,Try.ntmps47
     go_wp2
     go_ret
     exact ⟨by first | rfl | (simp;done) | (simp [*];done),zQ⟩
   ·rw [if_neg c9] at H
    have c9b0:(a0==24)=false:=beq_eq_false_iff_ne.mpr c9
    obtain rfl:=Option.some.inj H
    go_enter Try.func47,Try.ntmps47
    go_wp2
    go_ret
    exact ⟨by first | rfl | (simp;done) | (simp [*];done),zQ⟩
end Go.Proofs.Ytkjdblbgmomieaa.PSh
end
