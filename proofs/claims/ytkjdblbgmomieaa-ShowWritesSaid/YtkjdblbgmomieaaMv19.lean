import Derived.Test.YtkjdblbgmomieaaMv2
import Derived.Test.YtkjdblbgmomieaaMv18
import Derived.Test.YtkjdblbgmomieaaMv11
import Derived.Lib.ConvBytes
import Derived.Test.YtkjdblbgmomieaaMv3
import Derived.Test.YtkjdblbgmomieaaMv17
import Derived.Test.YtkjdblbgmomieaaMv7
import Derived.Test.YtkjdblbgmomieaaMv6
import Derived.Test.YtkjdblbgmomieaaMv13
import Derived.Test.YtkjdblbgmomieaaMv1
section
namespace Go.Proofs.Ytkjdblbgmomieaa.PSh
set_option maxHeartbeats 1000000
set_option maxRecDepth 100000
open Go.RowKit Go.Proofs.YtkjdblbgmomieaaW.PrintWords Go.Proofs.YtkjdblbgmomieaaW.PrintLast Go.Proofs.YtkjdblbgmomieaaW.PrintMore Go.Proofs.Ytkjdblbgmomieaa.Dig
set_option linter.unusedVariables false
set_option linter.unusedSimpArgs false
def digits_Print.f (a0:Int):Option ByteArray:=if -9223372036854775808≤a0 then (if a0≤9223372036854775807 then some ⟨(digs a0).toArray⟩ else none) else none
def u8s (L:List Int):Array Value:=(L.map (Value.int .u8)).toArray
theorem u8s_set (L:List Int) (i:Nat) (x:Int):(u8s L).setIfInBounds i (.int .u8 x)=u8s (L.set i x):=by
  apply Array.toList_inj.1
  simp [u8s,List.map_set]
theorem u8s_get {L:List Int} {i:Nat} (h:i<L.length):(u8s L)[i]?=some (.int .u8 (L[i])):=by
  simp [u8s,h]
theorem reads_tail {w:World} {g:Nat} {L:List Int} {t:TypeId} (h:w.heap[g]?=some (.cells (u8s L) t (0,0))) (i:Nat) (hi:i≤L.length) (hl:L.length≤9223372036854775807):(Kd.int .u8).C w (some ⟨g,i,none⟩) (L.drop i).length (L.drop i):=by
  refine ⟨rfl,by rw [List.length_drop];omega,fun _=>⟨_,rfl,fun j p hj=>⟨[.int .u8 p],rfl,rfl,fun q u hu=>?_⟩⟩⟩
  have hq:q=0:=by
    have:=(List.getElem?_eq_some_iff.1 hu).1
    simpa using this
  subst hq
  have hsz:(Kd.int .u8).sz=1:=rfl
  rw [hsz,Nat.mul_one,Nat.add_zero,add_at,blk_cell h]
  have hj2:=(List.getElem?_eq_some_iff.1 hj).1
  rw [List.length_drop] at hj2
  rw [u8s_get (by omega)]
  rw [List.getElem?_drop,List.getElem?_eq_getElem (by omega)] at hj
  simp at hu hj
  rw [← hu,hj]
theorem slice20 (g i:Nat) (hi:i≤19) (w:World):(Instr.sliceAt 98 (.pointer (some ⟨g,0,none⟩)) (some (.int .i64 (i:Int))) none none).run Try.prog w=.ok (.slice (some ⟨g,i,none⟩) (20 - i) (20 - i)) w:=by
  have hl:Try.prog.arrayLen 98=20:=by kernel_rfl
  have hs:(sizeOf (Try.prog.elem 98)).run Try.prog w=.ok 1 w:=by kernel_rfl
  rw [run_sliceAt_array_l w 98 ⟨g,0,none⟩ (by kernel_rfl) .i64 (i:Int) (by omega) (by rw [hl];omega),hs,hl]
  simp only [Result.andThen,slicedAt,Int.toNat_natCast,Nat.mul_one,add_plain]
  rw [if_neg (by omega)]
theorem conv_tail {w:World} {g:Nat} {L:List Int} (h:w.heap[g]?=some (.cells (u8s L) 98 (0,0))) (hL:L.length=20) (i:Nat) (hi:i≤20) (l:List UInt8) (hd:L.drop i=l.map (fun c=>(c.toNat:Int))):
    ∀ c,(convert 53 9 (.slice (some ⟨g,i,none⟩) (20 - i) c)).run Try.prog w=.ok (.string ⟨l.toArray⟩) w:=by
  intro c
  have e:20 - i=(L.drop i).length:=by rw [List.length_drop,hL]
  rw [e,Kd.C_string (P:=Try.prog) Try.underlying53 Try.underlying5 Try.underlying9 (reads_tail h i (by omega) (by omega)),hd,str_of]
def AtHead (w:World) (a0:Int) (at_ k:Value) (wr:World):Prop:=∃ (m:Nat) (kk:Int) (L:List Int),at_=.int .i64 (20 - (m:Int))∧k=.int .i64 kk∧Aside0 (Inv a0 m kk L)∧Aside0 (wr.heap[w.heap.size]?=some (.cells (u8s L) 98 (0,0)))∧Aside0 (Below w.heap.size w wr)
theorem digits_Print.calls (a0:Int) (r:ByteArray) (w:World) (h:digits_Print.f a0=some r):
    Calls Try.prog 42 #[.int .i64 a0] w fun e w'=>e=.returned (.string r)∧Below w.heap.size w w':=by
  unfold digits_Print.f at h
  by_cases hlo:-9223372036854775808≤a0
  case neg=>rw [if_neg hlo] at h;cases h
  by_cases hhi:a0≤9223372036854775807
  case neg=>rw [if_pos hlo,if_neg hhi] at h;cases h
  rw [if_pos hlo,if_pos hhi] at h
  obtain rfl:=Option.some.inj h
  clear h
  by_cases hz:a0=0
  · subst hz
    go_enter Try.func42,Try.ntmps42
    go_wp2
    go_ret
    exact ⟨rfl,Below.refl _ _⟩
  · have h0:(a0==0)=false:=by simpa using hz
    have HI:=aM (inv_start hlo hhi)
    have HZ:=aM hz
    clear hz
    go_enter Try.func42,Try.ntmps42
    go_wp2
    go_loopw [4,5] (fun at_ k wr=>AtHead w a0 at_ k wr) (fun _ k _=>(intOf k).natAbs)
    case atStart=>exact ⟨0,a0,_,by simp,rfl,HI,⟨blk_new w _⟩,⟨(Below.refl _ _).alloc (Nat.le_refl _) _⟩⟩
    case round=>
      obtain ⟨m,kk,L,rfl,rfl,HV,HB,HW⟩:=hrel
      clear HI
      by_cases hk:kk=0
      · subst hk
        have hm19:m≤19:=HV.out.m19
        have hlen:=HV.out.len
        have hend:L.drop (20 - m)=(pd a0.natAbs).map (fun c=>(c.toNat:Int)):=inv_end HV.out
        have hm1:1≤m:=by
          rcases Nat.eq_zero_or_pos m with h | h
          · exfalso
            subst h
            rw [show 20 - 0=L.length from by rw [hlen],List.drop_length] at hend
            exact pd_ne_nil (n:=a0.natAbs) (by have:=HZ.out;omega) (by simpa using hend.symm)
          · exact h
        have HE:=aM hend
        clear hend
        by_cases hneg:a0<0
        · have hd:decide (a0<0)=true:=decide_eq_true hneg
          obtain ⟨v0,hc⟩:∃ v,wr.cell? ⟨w.heap.size,19 - m,none⟩=some v:=⟨_,(blk_cell HB.out _).trans (u8s_get (by omega))⟩
          have hf:wr.frozen? ⟨w.heap.size,19 - m,none⟩=false:=blk_frozen HB.out _
          have hcv:=conv_tail (w:=wr.setCell ⟨w.heap.size,19 - m,none⟩ (.int .u8 45)) (g:=w.heap.size) (L:=L.set (19 - m) 45) (by rw [← u8s_set];exact blk_set HB.out (19 - m) (.int .u8 45)) (by rw [List.length_set];exact hlen) (19 - m) (by omega) (45::pd a0.natAbs) (inv_minus HV.out)
          have hsl:=slice20 w.heap.size (19 - m) (by omega)
          have hs1:(20 - (m:Int)) - 1=((19 - m:Nat):Int):=by omega
          clear hlen
          go_wp2
          go_ret
          have e:digs a0=45::pd a0.natAbs:=by unfold digs;rw [if_neg HZ.out,if_pos (by omega)]
          rw [e]
          exact ⟨rfl,HW.out.setCell (Nat.le_refl _) _⟩
        · have hd:decide (a0<0)=false:=decide_eq_false hneg
          have hcv:=conv_tail HB.out hlen (20 - m) (by omega) (pd a0.natAbs) HE.out
          have hsl:=slice20 w.heap.size (20 - m) (by omega)
          have hs1:(20 - (m:Int))=((20 - m:Nat):Int):=by omega
          clear hlen
          go_wp2
          go_ret
          have e:digs a0=pd a0.natAbs:=by unfold digs;rw [if_neg HZ.out,if_neg (by omega)]
          rw [e]
          exact ⟨rfl,HW.out⟩
      · have hk0:(kk==0)=false:=by simpa using hk
        have hk1:(kk !=0)=true:=by simpa using hk
        have h18:=ten_pow m kk.natAbs (by omega) (HV.out.pow hk)
        have hlo2:=HV.out.low
        have hhi2:=HV.out.high
        have HL:=aM HV.out.len
        have hs1:(20 - (m:Int)) - 1=((19 - m:Nat):Int):=by omega
        obtain ⟨v0,hc⟩:∃ v,wr.cell? ⟨w.heap.size,19 - m,none⟩=some v:=⟨_,(blk_cell HB.out _).trans (u8s_get (by have:=HL.out;omega))⟩
        have hf:wr.frozen? ⟨w.heap.size,19 - m,none⟩=false:=blk_frozen HB.out _
        rcases Int.lt_or_gt_of_ne hk with hneg | hpos
        · go_wp2
          · have hq:kk.tmod 10<0:=by assumption
            have e1:(kk.tmod 10).natAbs=kk.natAbs % 10:=by rw [Int.natAbs_tmod];rfl
            have e2:(kk.tdiv 10).natAbs=kk.natAbs / 10:=by rw [Int.natAbs_tdiv];rfl
            refine ⟨⟨m+1,kk.tdiv 10,L.set (19 - m) ((48+wrap64 (-kk.tmod 10)) % 256),congrArg (Value.int .i64) (by omega),rfl,⟨inv_step HV.out hk _ ?_ _ rfl⟩,⟨by rw [← u8s_set];exact blk_set HB.out (19 - m) _⟩,⟨HW.out.setCell (Nat.le_refl _) _⟩⟩,by simp only [intOf];omega⟩
            unfold wrap64;omega
          · have hq:0≤kk.tmod 10:=by assumption
            have e1:(kk.tmod 10).natAbs=kk.natAbs % 10:=by rw [Int.natAbs_tmod];rfl
            have e2:(kk.tdiv 10).natAbs=kk.natAbs / 10:=by rw [Int.natAbs_tdiv];rfl
            refine ⟨⟨m+1,kk.tdiv 10,L.set (19 - m) ((48+kk.tmod 10) % 256),congrArg (Value.int .i64) (by omega),rfl,⟨inv_step HV.out hk _ ?_ _ rfl⟩,⟨by rw [← u8s_set];exact blk_set HB.out (19 - m) _⟩,⟨HW.out.setCell (Nat.le_refl _) _⟩⟩,by simp only [intOf];omega⟩
            omega
        · have hd:decide (kk % 10<0)=false:=decide_eq_false (by omega)
          go_wp2
          refine ⟨⟨m+1,kk / 10,L.set (19 - m) (48+kk % 10),congrArg (Value.int .i64) (by omega),rfl,⟨inv_step HV.out hk _ ?_ _ ?_⟩,⟨by rw [← u8s_set];exact blk_set HB.out (19 - m) _⟩,⟨HW.out.setCell (Nat.le_refl _) _⟩⟩,by simp only [intOf];omega⟩
          · have:kk=(kk.natAbs:Int):=by omega
            omega
          · rw [Int.tdiv_eq_ediv_of_nonneg (by omega)]
end Go.Proofs.Ytkjdblbgmomieaa.PSh
end
section
namespace Go.Proofs.Ytkjdblbgmomieaa.PSh
set_option maxHeartbeats 4000000
set_option maxRecDepth 100000
open Go.RowKit Go.Proofs.YtkjdblbgmomieaaW.PrintWords Go.Proofs.YtkjdblbgmomieaaW.PrintLast Go.Proofs.YtkjdblbgmomieaaW.PrintMore Go.Proofs.Ytkjdblbgmomieaa.Str
set_option linter.unusedVariables false
set_option linter.unusedSimpArgs false
def nameC (i:Nat) (c:UInt8):Bool:=(decide (97≤c.toNat) && decide (c.toNat≤122)) || (!decide (i=0) && (decide (c.toNat=95) || (decide (48≤c.toNat) && decide (c.toNat≤57))))
def nameFrom:Nat→List UInt8→Bool
  | _,[]=>true
  | i,c::l=>nameC i c && nameFrom (i+1) l
def nameL (l:List UInt8):Bool:=!l.isEmpty && decide (l.length≤24) && nameFrom 0 l
def token_Name.f (a0:ByteArray):Option Bool:=some (nameL a0.data.toList)
theorem nameFrom_drop (l:List UInt8) (k:Nat) (h:k<l.length):nameFrom k (l.drop k)=(nameC k (l[k]) && nameFrom (k+1) (l.drop (k+1))):=by
  rw [List.drop_eq_getElem_cons h];rfl
theorem bytes_below (w:World) (e:TypeId) (s:ByteArray):Below w.heap.size w (Lib.bytesWorld w e s):=by
  have h1:Below w.heap.size w (w.drew.alloc (.cells (Lib.bytesCells w e s) e)):=((Below.refl _ _).drew).alloc (Nat.le_refl _) _
  refine ⟨h1.os,?_,h1.output,?_,fun i hi=>Lib.bytesWorld_at_old w e s i hi⟩
  · exact h1.tape
  · rw [Lib.bytesWorld_size];omega
theorem token_Name.calls (a0:ByteArray) (r:Bool) (w:World) (h:token_Name.f a0=some r):
    Calls Try.prog 55 #[.string a0] w fun e w'=>e=.returned (.bool r)∧Below w.heap.size w w':=by
  obtain rfl:=Option.some.inj h
  clear h
  have hsl:a0.size=a0.data.toList.length:=rfl
  by_cases h0:a0.size=0
  · have hd:((a0.size:Int)==0)=true:=by rw [h0];rfl
    have hr:nameL a0.data.toList=false:=by
      have:a0.data.toList=[]:=List.length_eq_zero_iff.1 (by omega)
      rw [this];rfl
    have HR:=aM hr
    clear hr hsl h0
    go_enter Try.func55,Try.ntmps55
    go_wp2
    go_ret
    exact ⟨by rw [HR.out];rfl,Below.refl _ _⟩
  · have hd:((a0.size:Int)==0)=false:=by rw [beq_eq_false_iff_ne];omega
    by_cases h24:a0.size≤24
    case neg=>
      have hd2:decide ((24:Int)<(a0.size:Int))=true:=decide_eq_true (by omega)
      have hr:nameL a0.data.toList=false:=by
        unfold nameL
        rw [decide_eq_false (by omega),Bool.and_false,Bool.false_and]
      have HR:=aM hr
      clear hr hsl h0
      go_enter Try.func55,Try.ntmps55
      go_wp2
      go_ret
      exact ⟨by rw [HR.out];rfl,Below.refl _ _⟩
    case pos=>
      have hd2:decide ((24:Int)<(a0.size:Int))=false:=decide_eq_false (by omega)
      have hr:nameL a0.data.toList=nameFrom 0 a0.data.toList:=by
        unfold nameL
        have:a0.data.toList≠[]:=fun e=>h0 (by rw [hsl,e];rfl)
        have e1:a0.data.toList.isEmpty=false:=by simpa using this
        rw [e1,decide_eq_true (by omega)];simp
      have HR:=aM hr
      have HSL:=aM hsl
      clear hr hsl h0
      have hcv:=Lib.run_convert_string_bytes (P:=Try.prog) w 9 53 5 a0 Try.underlying9 Try.underlying53 Try.underlying5
      have hcell:∀ j:Nat,j<a0.size→(Lib.bytesWorld w 5 a0).cell? ⟨w.heap.size,j,none⟩=some (.int .u8 (a0.data.toList.getD j 0).toNat):=fun j hj=>Lib.bytesWorld_cell w _ a0 j hj
      have HC:=aM hcell
      have HB:=aM (bytes_below w 5 a0)
      clear hcell
      generalize hg:grownCap w a0.size 0 5=cap at hcv
      clear hg
      go_enter Try.func55,Try.ntmps55
      go_wp2
      go_loop [17] (fun i=>∃ k:Nat,k≤a0.size∧i=.int .i64 k∧Aside0 (nameFrom 0 a0.data.toList=nameFrom k (a0.data.toList.drop k))) (fun i=>a0.size - (intOf i).toNat)
      case atStart=>exact ⟨0,Nat.zero_le _,rfl,⟨rfl⟩⟩
      case round=>
        obtain ⟨k,hk,rfl,HN⟩:=hrel
        by_cases hlt:k<a0.size
        · have hc:=HC.out k hlt
          obtain ⟨cv,hcv2⟩:∃ cv:Nat,cv=(a0.data.toList.getD k 0).toNat:=⟨_,rfl⟩
          have hb:cv<256:=by rw [hcv2];exact UInt8.toNat_lt _
          rw [← hcv2] at hc
          have HX:=aM (show (a0.data.toList[k]'(by rw [← HSL.out];exact hlt)).toNat=cv by rw [hcv2,List.getD_eq_getElem?_getD,List.getElem?_eq_getElem (by rw [← HSL.out];exact hlt)];rfl)
          clear hcv2
          by_cases hsm:97≤cv∧cv≤122
          · obtain ⟨s1,s2⟩:=hsm
            have HE:=aM (show nameC k (a0.data.toList[k]'(by rw [← HSL.out];exact hlt))=true by unfold nameC;rw [HX.out];simp;omega)
            go_wp2
            go_round
            case rel=>exact ⟨k+1,by omega,by go_num,⟨by rw [HN.out,nameFrom_drop _ _ (by rw [← HSL.out];exact hlt),HE.out,Bool.true_and]⟩⟩
            case measure=>simp [intOf];omega
          · have hdm:(decide ((97:Int)≤(cv:Int))=false)∨(decide ((97:Int)≤(cv:Int))=true∧decide ((cv:Int)≤122)=false):=by
              by_cases e:97≤cv
              · exact .inr ⟨decide_eq_true (by omega),decide_eq_false (by omega)⟩
              · exact .inl (decide_eq_false (by omega))
            by_cases hk0:k=0
            · subst hk0
              rcases hdm with d1 | ⟨d1,d2⟩
              all_goals
                have HE:=aM (show nameC 0 (a0.data.toList[0]'(by rw [← HSL.out];exact hlt))=false by unfold nameC;rw [HX.out];simp;omega)
                go_wp2
                go_ret
                exact ⟨by rw [HR.out,HN.out,nameFrom_drop _ _ (by rw [← HSL.out];exact hlt),HE.out];rfl,HB.out⟩
            · have hk1:((k:Int)==0)=false:=by rw [beq_eq_false_iff_ne];omega
              by_cases h95:cv=95
              · subst h95
                have HE:=aM (show nameC k (a0.data.toList[k]'(by rw [← HSL.out];exact hlt))=true by unfold nameC;rw [HX.out];simp;omega)
                go_wp2
                go_round
                case rel=>exact ⟨k+1,by omega,by go_num,⟨by rw [HN.out,nameFrom_drop _ _ (by rw [← HSL.out];exact hlt),HE.out,Bool.true_and]⟩⟩
                case measure=>simp [intOf];omega
              · have h96:((cv:Int) !=95)=true:=by rw [bne_iff_ne];omega
                by_cases h48:cv<48
                · have d3:decide ((cv:Int)<48)=true:=decide_eq_true (by omega)
                  rcases hdm with d1 | ⟨d1,d2⟩
                  all_goals
                    have HE:=aM (show nameC k (a0.data.toList[k]'(by rw [← HSL.out];exact hlt))=false by unfold nameC;rw [HX.out];simp;omega)
                    go_wp2
                    go_ret
                    exact ⟨by rw [HR.out,HN.out,nameFrom_drop _ _ (by rw [← HSL.out];exact hlt),HE.out];rfl,HB.out⟩
                · have d3:decide ((cv:Int)<48)=false:=decide_eq_false (by omega)
                  by_cases h57:57<cv
                  · have d4:decide ((57:Int)<(cv:Int))=true:=decide_eq_true (by omega)
                    rcases hdm with d1 | ⟨d1,d2⟩
                    all_goals
                      have HE:=aM (show nameC k (a0.data.toList[k]'(by rw [← HSL.out];exact hlt))=false by unfold nameC;rw [HX.out];simp;omega)
                      go_wp2
                      go_ret
                      exact ⟨by rw [HR.out,HN.out,nameFrom_drop _ _ (by rw [← HSL.out];exact hlt),HE.out];rfl,HB.out⟩
                  · have d4:decide ((57:Int)<(cv:Int))=false:=decide_eq_false (by omega)
                    rcases hdm with d1 | ⟨d1,d2⟩
                    all_goals
                      have HE:=aM (show nameC k (a0.data.toList[k]'(by rw [← HSL.out];exact hlt))=true by unfold nameC;rw [HX.out];simp;omega)
                      go_wp2
                      go_round
                      case rel=>exact ⟨k+1,by omega,by go_num,⟨by rw [HN.out,nameFrom_drop _ _ (by rw [← HSL.out];exact hlt),HE.out,Bool.true_and]⟩⟩
                      case measure=>simp [intOf];omega
        · go_wp2
          go_ret
          have hkk:k=a0.size:=by omega
          subst hkk
          exact ⟨by rw [HR.out,HN.out,HSL.out,List.drop_length];rfl,HB.out⟩
end Go.Proofs.Ytkjdblbgmomieaa.PSh
end
section
namespace Go.Proofs.Ytkjdblbgmomieaa.PSh
set_option maxHeartbeats 8000000
set_option maxRecDepth 100000
open Go.RowKit Go.Proofs.YtkjdblbgmomieaaW.PrintWords Go.Proofs.YtkjdblbgmomieaaW.PrintLast Go.Proofs.YtkjdblbgmomieaaW.PrintMore Go.Proofs.Ytkjdblbgmomieaa.Zip
attribute [local go_sem] max2_int min2_int max_two min_two max_three min_three max_four min_four   -- for this text's walks alone
set_option linter.unusedVariables false
set_option linter.unusedSimpArgs false
def digits_Small.f (a0:Int):Option (ByteArray):=(digits_Print.f a0).bind fun t173=>(some t173)
theorem digits_Small.calls (a0:Int) (r:ByteArray) (w:World) (h:digits_Small.f a0=some r):
  Calls Try.prog 67 #[.int .i64 a0] w fun e w'=>e=.returned (.string r)∧Below w.heap.size w w':=by
 have HB:=aM (Below.refl w.heap.size w)
 have H:((digits_Print.f a0).bind fun t173=>(some t173))=some r:=h
 clear h
 replace H:=Option.bind_eq_some_iff.mp H
 obtain ⟨t173,A20,H⟩:=H
 have A2:=aM A20
 clear A20
 obtain rfl:=Option.some.inj H
 go_enter Try.func67,Try.ntmps67
 go_wp2_with (first | ((with_reducible refine gate_callee (f:=42) rfl ?_);refine goesL_ (some 4) rfl rfl Try.func42 (by kernel_rfl) rfl #[.int .i64 a0] rfl zA ?_;(with_reducible refine (digits_Print.calls a0 t173 _ A2.out).mono ?_);rintro e w3 ⟨rfl,hb⟩;refine ⟨_,rfl,?_⟩;have n0_:=aM (below_step (zB HB.out) hb);clear HB;have HB:=n0_;clear n0_;(try clear hb);(try clear hb2);(try clear hk);(try clear hi)))
 go_ret
 exact ⟨zF,zB HB.out⟩
def show_label.f (a0:Int):Option (ByteArray):=(digits_Small.f a0).bind fun t174=>(if 1+t174.size≤9223372036854775807 then (some ((⟨#[98]⟩:ByteArray)++t174)) else (none))
theorem show_label.calls (a0:Int) (r:ByteArray) (w:World) (h:show_label.f a0=some r):
  Calls Try.prog 33 #[.int .i64 a0] w fun e w'=>e=.returned (.string r)∧Below w.heap.size w w':=by
 have HB:=aM (Below.refl w.heap.size w)
 have H:((digits_Small.f a0).bind fun t174=>(if 1+t174.size≤9223372036854775807 then (some ((⟨#[98]⟩:ByteArray)++t174)) else (none)))=some r:=h
 clear h
 replace H:=Option.bind_eq_some_iff.mp H
 obtain ⟨t174,A20,H⟩:=H
 have A2:=aM A20
 clear A20
 by_cases c3:1+t174.size≤9223372036854775807
 ·rw [if_pos c3] at H
  try have c3b2:(9223372036854775807<1+t174.size)=False:=eq_false (Nat.not_lt.2 c3)
  obtain rfl:=Option.some.inj H
  go_enter Try.func33,Try.ntmps33
  go_wp2_with (first | ((with_reducible refine gate_callee (f:=67) rfl ?_);refine goesL_ (some 4) rfl rfl Try.func67 (by kernel_rfl) rfl #[.int .i64 a0] rfl zA ?_;(with_reducible refine (digits_Small.calls a0 t174 _ A2.out).mono ?_);rintro e w4 ⟨rfl,hb⟩;refine ⟨_,rfl,?_⟩;have n0_:=aM (below_step (zB HB.out) hb);clear HB;have HB:=n0_;clear n0_;(try clear hb);(try clear hb2);(try clear hk);(try clear hi)))
  go_ret
  exact ⟨zF,zB HB.out⟩
 ·rw [if_neg c3] at H
  exact absurd H (by simp)
def show_value.f (a0:Int):Option (ByteArray):=(digits_Small.f a0).bind fun t175=>(if 1+t175.size≤9223372036854775807 then (some ((⟨#[37]⟩:ByteArray)++t175)) else (none))
theorem show_value.calls (a0:Int) (r:ByteArray) (w:World) (h:show_value.f a0=some r):
  Calls Try.prog 39 #[.int .i64 a0] w fun e w'=>e=.returned (.string r)∧Below w.heap.size w w':=by
 have HB:=aM (Below.refl w.heap.size w)
 have H:((digits_Small.f a0).bind fun t175=>(if 1+t175.size≤9223372036854775807 then (some ((⟨#[37]⟩:ByteArray)++t175)) else (none)))=some r:=h
 clear h
 replace H:=Option.bind_eq_some_iff.mp H
 obtain ⟨t175,A20,H⟩:=H
 have A2:=aM A20
 clear A20
 by_cases c3:1+t175.size≤9223372036854775807
 ·rw [if_pos c3] at H
  try have c3b2:(9223372036854775807<1+t175.size)=False:=eq_false (Nat.not_lt.2 c3)
  obtain rfl:=Option.some.inj H
  go_enter Try.func39,Try.ntmps39
  go_wp2_with (first | ((with_reducible refine gate_callee (f:=67) rfl ?_);refine goesL_ (some 4) rfl rfl Try.func67 (by kernel_rfl) rfl #[.int .i64 a0] rfl zA ?_;(with_reducible refine (digits_Small.calls a0 t175 _ A2.out).mono ?_);rintro e w4 ⟨rfl,hb⟩;refine ⟨_,rfl,?_⟩;have n0_:=aM (below_step (zB HB.out) hb);clear HB;have HB:=n0_;clear n0_;(try clear hb);(try clear hb2);(try clear hk);(try clear hi)))
  go_ret
  exact ⟨zF,zB HB.out⟩
 ·rw [if_neg c3] at H
  exact absurd H (by simp)
def ops_typed.f (a0:Int):Option (Bool):=if a0=20 then (some true) else (if a0=21 then (some true) else (some (a0==24)))
theorem ops_typed.calls (a0:Int) (r:Bool) (w:World) (h:ops_typed.f a0=some r):
  Calls Try.prog 68 #[.int .i64 a0] w fun e w'=>e=.returned (.bool r)∧Drawn0 w w':=by
 have H:(if a0=20 then (some true) else (if a0=21 then (some true) else (some (a0==24))))=some r:=h
 clear h
 by_cases c2:a0=20
 ·rw [if_pos c2] at H
  have c2b0:(a0==20)=true:=beq_iff_eq.mpr c2
  clear c2
  obtain rfl:=Option.some.inj H
  go_enter Try.func68,Try.ntmps68
  go_wp2
  go_ret
  exact ⟨by first | rfl | (simp;done) | (simp [*];done),zQ⟩
 ·rw [if_neg c2] at H
  have c2b0:(a0==20)=false:=beq_eq_false_iff_ne.mpr c2
  by_cases c3:a0=21
  ·rw [if_pos c3] at H
   have c3b0:(a0==21)=true:=beq_iff_eq.mpr c3
   clear c3
   obtain rfl:=Option.some.inj H
   go_enter Try.func68,Try.ntmps68
   go_wp2
   go_ret
   exact ⟨by first | rfl | (simp;done) | (simp [*];done),zQ⟩
  ·rw [if_neg c3] at H
   have c3b0:(a0==21)=false:=beq_eq_false_iff_ne.mpr c3
   obtain rfl:=Option.some.inj H
   go_enter Try.func68,Try.ntmps68
   go_wp2
   go_ret
   exact ⟨by first | rfl | (simp;done) | (simp [*];done),zQ⟩
def ops_Makes.f (a0_0:Int) (a0_1:Int) (a0_2:Int) (a0_3:Int) (l0_4:List Int) (l0_5:List Int) (a0_6:ByteArray) (a0_7:Int):Option (Int):=(ops_typed.f a0_0).bind fun t177=>(if t177=true then (some a0_3) else ((ops_of.f a0_0).bind fun bt178=>(some bt178.2.2.2.1)))
theorem ops_Makes.calls (a0_0:Int) (a0_1:Int) (a0_2:Int) (a0_3:Int) (A0_4:Option Addr) (c0_4:Nat) (l0_4:List Int) (A0_5:Option Addr) (c0_5:Nat) (l0_5:List Int) (a0_6:ByteArray) (a0_7:Int) (r:Int) (w:World) (hr0_4:Kd.C (Kd.int .i64) w A0_4 l0_4.length l0_4) (hc0_4:l0_4.length≤c0_4) (hr0_5:Kd.C (Kd.int .i64) w A0_5 l0_5.length l0_5) (hc0_5:l0_5.length≤c0_5) (h:ops_Makes.f a0_0 a0_1 a0_2 a0_3 l0_4 l0_5 a0_6 a0_7=some r):
  Calls Try.prog 40 #[.agg #[.int .i64 a0_0,.int .i64 a0_1,.int .i64 a0_2,.int .i64 a0_3,.slice A0_4 l0_4.length c0_4,.slice A0_5 l0_5.length c0_5,.string a0_6,.int .i64 a0_7]] w fun e w'=>e=.returned (.int .i64 r)∧Below w.heap.size w w':=by
 have hfl96_2:∀ (u0 u1 u2 u3 u4 u5 u6 u7 u8:Value) (W:World),(Instr.field 96 (.agg #[u0,u1,u2,u3,u4,u5,u6,u7,u8]) 2).run Try.prog W=.ok (u3) W:=fun _ _ _ _ _ _ _ _ _ _=>by show _=_;kernel_rfl
 clear hr0_4 hc0_4 hr0_5 hc0_5
 have HB:=aM (Below.refl w.heap.size w)
 have H:((ops_typed.f a0_0).bind fun t177=>(if t177=true then (some a0_3) else ((ops_of.f a0_0).bind fun bt178=>(some bt178.2.2.2.1))))=some r:=h
 clear h
 replace H:=Option.bind_eq_some_iff.mp H
 obtain ⟨t177,A20,H⟩:=H
 have A2:=aM A20
 clear A20
 by_cases c3:t177=true
 ·subst c3
  have H1:(some a0_3)=some r:=by rw [if_pos rfl] at H;exact H
  clear H
  have H:=H1
  clear H1
  obtain rfl:=Option.some.inj H
  go_enter Try.func40,Try.ntmps40
  go_wp2_with (first | ((with_reducible refine gate_dst (N:=1) rfl ?_);refine box_event ?hg (N:=1) ?hd (cs:=#[.int .i64 a0_0,.int .i64 a0_1,.int .i64 a0_2,.int .i64 a0_3,.slice A0_4 l0_4.length c0_4,.slice A0_5 l0_5.length c0_5,.string a0_6,.int .i64 a0_7]) (t:=39) ?hr ?_;(case hd=>rfl);(case hg=>rfl);(case hr=>first | (go_simp;done) | (go_simp;rfl));intro gb176 hg w4 hbox hb;have n0_:=aM (below_step (zB HB.out) hb);have n1_:=aM (hbox);have n2_:=aM ((by rw [hg];exact (below_size (zB HB.out)):w.heap.size≤gb176));have n3_:=aM ((by rw [hg];exact (below_size (zB HB.out)):w.heap.size≤gb176));clear HB;have HB:=n0_;have BK176:=n1_;have GE176:=n3_;clear n0_ n1_ n2_ n3_;clear hb hbox hg;have hcz5_0:w4.cell? ⟨gb176,0,none⟩=some (.int .i64 a0_0):=(blk_cell BK176.out 0).trans rfl;have hcz5_3:w4.cell? ⟨gb176,3,none⟩=some (.int .i64 a0_3):=(blk_cell BK176.out 3).trans rfl) | ((with_reducible refine gate_callee (f:=68) rfl ?_);refine goesL_ (some 5) rfl rfl Try.func68 (by kernel_rfl) rfl #[.int .i64 a0_0] rfl zA ?_;(with_reducible refine (ops_typed.calls a0_0 true _ A2.out).mono ?_);rintro e w' ⟨rfl,⟨nd,rfl⟩⟩;refine ⟨_,rfl,?_⟩))
  go_ret
  exact ⟨zF,zC HB.out GE176.out⟩
 ·replace c3:=Bool.eq_false_iff.mpr c3
  subst c3
  have H1:((ops_of.f a0_0).bind fun bt178=>(some bt178.2.2.2.1))=some r:=by rw [if_neg (show ¬ (false=true) by decide)] at H;exact H
  clear H
  have H:=H1
  clear H1
  replace H:=Option.bind_eq_some_iff.mp H
  obtain ⟨⟨t178,t179,t180,t181,t182,t183,t184,t185,t186⟩,A60,H⟩:=H
  have A6:=aM A60
  clear A60
  obtain rfl:=Option.some.inj H
  go_enter Try.func40,Try.ntmps40
  go_wp2_with (first | ((with_reducible refine gate_dst (N:=1) rfl ?_);refine box_event ?hg (N:=1) ?hd (cs:=#[.int .i64 a0_0,.int .i64 a0_1,.int .i64 a0_2,.int .i64 a0_3,.slice A0_4 l0_4.length c0_4,.slice A0_5 l0_5.length c0_5,.string a0_6,.int .i64 a0_7]) (t:=39) ?hr ?_;(case hd=>rfl);(case hg=>rfl);(case hr=>first | (go_simp;done) | (go_simp;rfl));intro gb176 hg w7 hbox hb;have n0_:=aM (below_step (zB HB.out) hb);have n1_:=aM (hbox);have n2_:=aM ((by rw [hg];exact (below_size (zB HB.out)):w.heap.size≤gb176));have n3_:=aM ((by rw [hg];exact (below_size (zB HB.out)):w.heap.size≤gb176));clear HB;have HB:=n0_;have BK176:=n1_;have GE176:=n3_;clear n0_ n1_ n2_ n3_;clear hb hbox hg;have hcz8_0:w7.cell? ⟨gb176,0,none⟩=some (.int .i64 a0_0):=(blk_cell BK176.out 0).trans rfl) | ((with_reducible refine gate_callee (f:=68) rfl ?_);refine goesL_ (some 5) rfl rfl Try.func68 (by kernel_rfl) rfl #[.int .i64 a0_0] rfl zA ?_;(with_reducible refine (ops_typed.calls a0_0 false _ A2.out).mono ?_);rintro e w' ⟨rfl,⟨nd,rfl⟩⟩;refine ⟨_,rfl,?_⟩) | ((with_reducible refine gate_callee (f:=69) rfl ?_);refine goesL_ (some 10) rfl rfl Try.func69 (by kernel_rfl) rfl #[.int .i64 a0_0] rfl zA ?_;(with_reducible refine (ops_of.calls a0_0 t178 t179 t180 t181 t182 t183 t184 t185 t186 _ A6.out).mono ?_);rintro e w9 ⟨rfl,hb⟩;refine ⟨_,rfl,?_⟩;have n0_:=aM (blk_below (g:=gb176) (o:=.cells #[.int .i64 a0_0,.int .i64 a0_1,.int .i64 a0_2,.int .i64 a0_3,.slice A0_4 l0_4.length c0_4,.slice A0_5 l0_5.length c0_5,.string a0_6,.int .i64 a0_7] 39 (0,0)) (zK BK176.out) hb);have n1_:=aM (below_step (zC HB.out GE176.out) hb);clear BK176;clear HB;have BK176:=n0_;have HB:=n1_;clear n0_ n1_;(try clear hb);(try clear hb2);(try clear hk);(try clear hi)))
  go_ret
  exact ⟨zF,zC HB.out GE176.out⟩
def ops_Letter.f (a0:Int):Option (ByteArray):=if a0=1 then (some (⟨#[105]⟩:ByteArray)) else (if a0=2 then (some (⟨#[112]⟩:ByteArray)) else (if a0=3 then (some (⟨#[100]⟩:ByteArray)) else (some (⟨#[110]⟩:ByteArray))))
theorem ops_Letter.calls (a0:Int) (r:ByteArray) (w:World) (h:ops_Letter.f a0=some r):
  Calls Try.prog 30 #[.int .i64 a0] w fun e w'=>e=.returned (.string r)∧Drawn0 w w':=by
 have H:(if a0=1 then (some (⟨#[105]⟩:ByteArray)) else (if a0=2 then (some (⟨#[112]⟩:ByteArray)) else (if a0=3 then (some (⟨#[100]⟩:ByteArray)) else (some (⟨#[110]⟩:ByteArray)))))=some r:=h
 clear h
 by_cases c2:a0=1
 ·rw [if_pos c2] at H
  have c2b0:(a0==1)=true:=beq_iff_eq.mpr c2
  clear c2
  obtain rfl:=Option.some.inj H
  go_enter Try.func30,Try.ntmps30
  go_wp2
  go_ret
  exact ⟨by first | rfl | (simp;done) | (simp [*];done),zQ⟩
 ·rw [if_neg c2] at H
  have c2b0:(a0==1)=false:=beq_eq_false_iff_ne.mpr c2
  by_cases c3:a0=2
  ·rw [if_pos c3] at H
   have c3b0:(a0==2)=true:=beq_iff_eq.mpr c3
   clear c3
   obtain rfl:=Option.some.inj H
   go_enter Try.func30,Try.ntmps30
   go_wp2
   go_ret
   exact ⟨by first | rfl | (simp;done) | (simp [*];done),zQ⟩
  ·rw [if_neg c3] at H
   have c3b0:(a0==2)=false:=beq_eq_false_iff_ne.mpr c3
   by_cases c4:a0=3
   ·rw [if_pos c4] at H
    have c4b0:(a0==3)=true:=beq_iff_eq.mpr c4
    clear c4
    obtain rfl:=Option.some.inj H
    go_enter Try.func30,Try.ntmps30
    go_wp2
    go_ret
    exact ⟨by first | rfl | (simp;done) | (simp [*];done),zQ⟩
   ·rw [if_neg c4] at H
    have c4b0:(a0==3)=false:=beq_eq_false_iff_ne.mpr c4
    obtain rfl:=Option.some.inj H
    go_enter Try.func30,Try.ntmps30
    go_wp2
    go_ret
    exact ⟨by first | rfl | (simp;done) | (simp [*];done),zQ⟩
def ops_Word.f (a0_0:Int) (a0_1:Int) (a0_2:Int) (a0_3:Int) (l0_4:List Int) (l0_5:List Int) (a0_6:ByteArray) (a0_7:Int):Option (ByteArray):=(ops_of.f a0_0).bind fun bt188=>((ops_typed.f a0_0).bind fun t197=>(if t197=true then ((ops_Letter.f a0_3).bind fun t198=>(if 1+t198.size≤9223372036854775807 then (if bt188.1.size+((⟨#[46]⟩:ByteArray)++t198).size≤9223372036854775807 then (some (bt188.1++((⟨#[46]⟩:ByteArray)++t198))) else (none)) else (none))) else (some bt188.1)))
theorem ops_Word.calls (a0_0:Int) (a0_1:Int) (a0_2:Int) (a0_3:Int) (A0_4:Option Addr) (c0_4:Nat) (l0_4:List Int) (A0_5:Option Addr) (c0_5:Nat) (l0_5:List Int) (a0_6:ByteArray) (a0_7:Int) (r:ByteArray) (w:World) (hr0_4:Kd.C (Kd.int .i64) w A0_4 l0_4.length l0_4) (hc0_4:l0_4.length≤c0_4) (hr0_5:Kd.C (Kd.int .i64) w A0_5 l0_5.length l0_5) (hc0_5:l0_5.length≤c0_5) (h:ops_Word.f a0_0 a0_1 a0_2 a0_3 l0_4 l0_5 a0_6 a0_7=some r):
  Calls Try.prog 41 #[.agg #[.int .i64 a0_0,.int .i64 a0_1,.int .i64 a0_2,.int .i64 a0_3,.slice A0_4 l0_4.length c0_4,.slice A0_5 l0_5.length c0_5,.string a0_6,.int .i64 a0_7]] w fun e w'=>e=.returned (.string r)∧Below w.heap.size w w':=by
 have hfl96_0:∀ (u0 u1 u2 u3 u4 u5 u6 u7 u8:Value) (W:World),(Instr.field 96 (.agg #[u0,u1,u2,u3,u4,u5,u6,u7,u8]) 0).run Try.prog W=.ok (u0) W:=fun _ _ _ _ _ _ _ _ _ _=>by show _=_;kernel_rfl
 clear hr0_4 hc0_4 hr0_5 hc0_5
 have HB:=aM (Below.refl w.heap.size w)
 have H:((ops_of.f a0_0).bind fun bt188=>((ops_typed.f a0_0).bind fun t197=>(if t197=true then ((ops_Letter.f a0_3).bind fun t198=>(if 1+t198.size≤9223372036854775807 then (if bt188.1.size+((⟨#[46]⟩:ByteArray)++t198).size≤9223372036854775807 then (some (bt188.1++((⟨#[46]⟩:ByteArray)++t198))) else (none)) else (none))) else (some bt188.1))))=some r:=h
 clear h
 replace H:=Option.bind_eq_some_iff.mp H
 obtain ⟨⟨t188,t189,t190,t191,t192,t193,t194,t195,t196⟩,A20,H⟩:=H
 have A2:=aM A20
 clear A20
 replace H:=Option.bind_eq_some_iff.mp H
 obtain ⟨t197,A30,H⟩:=H
 have A3:=aM A30
 clear A30
 by_cases c4:t197=true
 ·subst c4
  have H1:((ops_Letter.f a0_3).bind fun t198=>(if 1+t198.size≤9223372036854775807 then (if t188.size+((⟨#[46]⟩:ByteArray)++t198).size≤9223372036854775807 then (some (t188++((⟨#[46]⟩:ByteArray)++t198))) else (none)) else (none)))=some r:=by rw [if_pos rfl] at H;exact H
  clear H
  have H:=H1
  clear H1
  replace H:=Option.bind_eq_some_iff.mp H
  obtain ⟨t198,A50,H⟩:=H
  have A5:=aM A50
  clear A50
  by_cases c6:1+t198.size≤9223372036854775807
  ·rw [if_pos c6] at H
   try have c6b2:(9223372036854775807<1+t198.size)=False:=eq_false (Nat.not_lt.2 c6)
   by_cases c7:t188.size+((⟨#[46]⟩:ByteArray)++t198).size≤9223372036854775807
   ·rw [if_pos c7] at H
    try have c7b2:(9223372036854775807<t188.size+((⟨#[46]⟩:ByteArray)++t198).size)=False:=eq_false (Nat.not_lt.2 c7)
    try (have c7b3:=c7b2;simp only [ByteArray.size_append,show ((⟨#[46]⟩:ByteArray)).size=1 from rfl] at c7b3)
    obtain rfl:=Option.some.inj H
    go_enter Try.func41,Try.ntmps41
    go_wp2_with (first | ((with_reducible refine gate_dst (N:=1) rfl ?_);refine box_event ?hg (N:=1) ?hd (cs:=#[.int .i64 a0_0,.int .i64 a0_1,.int .i64 a0_2,.int .i64 a0_3,.slice A0_4 l0_4.length c0_4,.slice A0_5 l0_5.length c0_5,.string a0_6,.int .i64 a0_7]) (t:=39) ?hr ?_;(case hd=>rfl);(case hg=>rfl);(case hr=>first | (go_simp;done) | (go_simp;rfl));intro gb187 hg w8 hbox hb;have n0_:=aM (below_step (zB HB.out) hb);have n1_:=aM (hbox);have n2_:=aM ((by rw [hg];exact (below_size (zB HB.out)):w.heap.size≤gb187));have n3_:=aM ((by rw [hg];exact (below_size (zB HB.out)):w.heap.size≤gb187));clear HB;have HB:=n0_;have BK187:=n1_;have GE187:=n3_;clear n0_ n1_ n2_ n3_;clear hb hbox hg;have hcz9_0:w8.cell? ⟨gb187,0,none⟩=some (.int .i64 a0_0):=(blk_cell BK187.out 0).trans rfl) | ((with_reducible refine gate_callee (f:=69) rfl ?_);refine goesL_ (some 6) rfl rfl Try.func69 (by kernel_rfl) rfl #[.int .i64 a0_0] rfl zA ?_;(with_reducible refine (ops_of.calls a0_0 t188 t189 t190 t191 t192 t193 t194 t195 t196 _ A2.out).mono ?_);rintro e w10 ⟨rfl,hb⟩;refine ⟨_,rfl,?_⟩;have n0_:=aM (blk_below (g:=gb187) (o:=.cells #[.int .i64 a0_0,.int .i64 a0_1,.int .i64 a0_2,.int .i64 a0_3,.slice A0_4 l0_4.length c0_4,.slice A0_5 l0_5.length c0_5,.string a0_6,.int .i64 a0_7] 39 (0,0)) (zK BK187.out) hb);have n1_:=aM (below_step (zC HB.out GE187.out) hb);clear BK187;clear HB;have BK187:=n0_;have HB:=n1_;clear n0_ n1_;(try clear hb);(try clear hb2);(try clear hk);(try clear hi);have hcz11_0:w10.cell? ⟨gb187,0,none⟩=some (.int .i64 a0_0):=(blk_cell BK187.out 0).trans rfl;have hcz11_3:w10.cell? ⟨gb187,3,none⟩=some (.int .i64 a0_3):=(blk_cell BK187.out 3).trans rfl) | ((with_reducible refine gate_callee (f:=68) rfl ?_);refine goesL_ (some 10) rfl rfl Try.func68 (by kernel_rfl) rfl #[.int .i64 a0_0] rfl zA ?_;(with_reducible refine (ops_typed.calls a0_0 true _ A3.out).mono ?_);rintro e w' ⟨rfl,⟨nd,rfl⟩⟩;refine ⟨_,rfl,?_⟩) | ((with_reducible refine gate_callee (f:=30) rfl ?_);refine goesL_ (some 14) rfl rfl Try.func30 (by kernel_rfl) rfl #[.int .i64 a0_3] rfl zA ?_;(with_reducible refine (ops_Letter.calls a0_3 t198 _ A5.out).mono ?_);rintro e w' ⟨rfl,⟨nd,rfl⟩⟩;refine ⟨_,rfl,?_⟩))
    go_ret
    exact ⟨zF,zC HB.out GE187.out⟩
   ·rw [if_neg c7] at H
    exact absurd H (by simp)
  ·rw [if_neg c6] at H
   exact absurd H (by simp)
 ·replace c4:=Bool.eq_false_iff.mpr c4
  subst c4
  have H1:(some t188)=some r:=by rw [if_neg (show ¬ (false=true) by decide)] at H;exact H
  clear H
  have H:=H1
  clear H1
  obtain rfl:=Option.some.inj H
  go_enter Try.func41,Try.ntmps41
  go_wp2_with (first | ((with_reducible refine gate_dst (N:=1) rfl ?_);refine box_event ?hg (N:=1) ?hd (cs:=#[.int .i64 a0_0,.int .i64 a0_1,.int .i64 a0_2,.int .i64 a0_3,.slice A0_4 l0_4.length c0_4,.slice A0_5 l0_5.length c0_5,.string a0_6,.int .i64 a0_7]) (t:=39) ?hr ?_;(case hd=>rfl);(case hg=>rfl);(case hr=>first | (go_simp;done) | (go_simp;rfl));intro gb187 hg w12 hbox hb;have n0_:=aM (below_step (zB HB.out) hb);have n1_:=aM (hbox);have n2_:=aM ((by rw [hg];exact (below_size (zB HB.out)):w.heap.size≤gb187));have n3_:=aM ((by rw [hg];exact (below_size (zB HB.out)):w.heap.size≤gb187));clear HB;have HB:=n0_;have BK187:=n1_;have GE187:=n3_;clear n0_ n1_ n2_ n3_;clear hb hbox hg;have hcz13_0:w12.cell? ⟨gb187,0,none⟩=some (.int .i64 a0_0):=(blk_cell BK187.out 0).trans rfl) | ((with_reducible refine gate_callee (f:=69) rfl ?_);refine goesL_ (some 6) rfl rfl Try.func69 (by kernel_rfl) rfl #[.int .i64 a0_0] rfl zA ?_;(with_reducible refine (ops_of.calls a0_0 t188 t189 t190 t191 t192 t193 t194 t195 t196 _ A2.out).mono ?_);rintro e w14 ⟨rfl,hb⟩;refine ⟨_,rfl,?_⟩;have n0_:=aM (blk_below (g:=gb187) (o:=.cells #[.int .i64 a0_0,.int .i64 a0_1,.int .i64 a0_2,.int .i64 a0_3,.slice A0_4 l0_4.length c0_4,.slice A0_5 l0_5.length c0_5,.string a0_6,.int .i64 a0_7] 39 (0,0)) (zK BK187.out) hb);have n1_:=aM (below_step (zC HB.out GE187.out) hb);clear BK187;clear HB;have BK187:=n0_;have HB:=n1_;clear n0_ n1_;(try clear hb);(try clear hb2);(try clear hk);(try clear hi);have hcz15_0:w14.cell? ⟨gb187,0,none⟩=some (.int .i64 a0_0):=(blk_cell BK187.out 0).trans rfl) | ((with_reducible refine gate_callee (f:=68) rfl ?_);refine goesL_ (some 10) rfl rfl Try.func68 (by kernel_rfl) rfl #[.int .i64 a0_0] rfl zA ?_;(with_reducible refine (ops_typed.calls a0_0 false _ A3.out).mono ?_);rintro e w' ⟨rfl,⟨nd,rfl⟩⟩;refine ⟨_,rfl,?_⟩))
  go_ret
  exact ⟨zF,zC HB.out GE187.out⟩
def ops_May.f (a0:Int) (a1:Int):Option (Bool):=if a0=20 then (if a1=1 then (some true) else (if a1=2 then (some true) else (some (a1==3)))) else (if a0=21 then (if a1=0 then (some true) else (if a1=1 then (some true) else (some (a1==2)))) else (if a0=24 then (if a1=2 then (some true) else (some (a1==3))) else (some (a1==0))))
theorem ops_May.calls (a0:Int) (a1:Int) (r:Bool) (w:World) (h:ops_May.f a0 a1=some r):
  Calls Try.prog 47 #[.int .i64 a0,.int .i64 a1] w fun e w'=>e=.returned (.bool r)∧Drawn0 w w':=by
 have H:(if a0=20 then (if a1=1 then (some true) else (if a1=2 then (some true) else (some (a1==3)))) else (if a0=21 then (if a1=0 then (some true) else (if a1=1 then (some true) else (some (a1==2)))) else (if a0=24 then (if a1=2 then (some true) else (some (a1==3))) else (some (a1==0)))))=some r:=h
 clear h
 by_cases c3:a0=20
 ·rw [if_pos c3] at H
  have c3b0:(a0==20)=true:=beq_iff_eq.mpr c3
  clear c3
  by_cases c4:a1=1
  ·rw [if_pos c4] at H
   have c4b0:(a1==1)=true:=beq_iff_eq.mpr c4
   clear c4
   obtain rfl:=Option.some.inj H
   go_enter Try.func47,Try.ntmps47
   go_wp2
   go_ret
   exact ⟨by first | rfl | (simp;done) | (simp [*];done),zQ⟩
  ·rw [if_neg c4] at H
   have c4b0:(a1==1)=false:=beq_eq_false_iff_ne.mpr c4
   by_cases c5:a1=2
   ·rw [if_pos c5] at H
    have c5b0:(a1==2)=true:=beq_iff_eq.mpr c5
    clear c5
    obtain rfl:=Option.some.inj H
    go_enter Try.func47,Try.ntmps47
    go_wp2
    go_ret
    exact ⟨by first | rfl | (simp;done) | (simp [*];done),zQ⟩
   ·rw [if_neg c5] at H
    have c5b0:(a1==2)=false:=beq_eq_false_iff_ne.mpr c5
    obtain rfl:=Option.some.inj H
    go_enter Try.func47,Try.ntmps47
    go_wp2
    go_ret
    exact ⟨by first | rfl | (simp;done) | (simp [*];done),zQ⟩
 ·rw [if_neg c3] at H
  have c3b0:(a0==20)=false:=beq_eq_false_iff_ne.mpr c3
  by_cases c6:a0=21
  ·rw [if_pos c6] at H
   have c6b0:(a0==21)=true:=beq_iff_eq.mpr c6
   clear c6
   by_cases c7:a1=0
   ·rw [if_pos c7] at H
    have c7b0:(a1==0)=true:=beq_iff_eq.mpr c7
    clear c7
    obtain rfl:=Option.some.inj H
    go_enter Try.func47,Try.ntmps47
    go_wp2
    go_ret
    exact ⟨by first | rfl | (simp;done) | (simp [*];done),zQ⟩
   ·rw [if_neg c7] at H
    have c7b0:(a1==0)=false:=beq_eq_false_iff_ne.mpr c7
    by_cases c8:a1=1
    ·rw [if_pos c8] at H
     have c8b0:(a1==1)=true:=beq_iff_eq.mpr c8
     clear c8
     obtain rfl:=Option.some.inj H
     go_enter Try.func47,Try.ntmps47
     go_wp2
     go_ret
     exact ⟨by first | rfl | (simp;done) | (simp [*];done),zQ⟩
    ·rw [if_neg c8] at H
     have c8b0:(a1==1)=false:=beq_eq_false_iff_ne.mpr c8
     obtain rfl:=Option.some.inj H
     go_enter Try.func47,Try.ntmps47
     go_wp2
     go_ret
     exact ⟨by first | rfl | (simp;done) | (simp [*];done),zQ⟩
  ·rw [if_neg c6] at H
   have c6b0:(a0==21)=false:=beq_eq_false_iff_ne.mpr c6
   by_cases c9:a0=24
   ·rw [if_pos c9] at H
    have c9b0:(a0==24)=true:=beq_iff_eq.mpr c9
    clear c9
    by_cases c10:a1=2
    ·rw [if_pos c10] at H
     have c10b0:(a1==2)=true:=beq_iff_eq.mpr c10
     clear c10
     obtain rfl:=Option.some.inj H
     go_enter Try.func47,Try.ntmps47
     go_wp2
     go_ret
     exact ⟨by first | rfl | (simp;done) | (simp [*];done),zQ⟩
    ·rw [if_neg c10] at H
     have c10b0:(a1==2)=false:=beq_eq_false_iff_ne.mpr c10
     obtain rfl:=Option.some.inj H
     go_enter Try.func47,Try.ntmps47
     go_wp2
     go_ret
     exact ⟨by first | rfl | (simp;done) | (simp [*];done),zQ⟩
   ·rw [if_neg c9] at H
    have c9b0:(a0==24)=false:=beq_eq_false_iff_ne.mpr c9
    obtain rfl:=Option.some.inj H
    go_enter Try.func47,Try.ntmps47
    go_wp2
    go_ret
    exact ⟨by first | rfl | (simp;done) | (simp [*];done),zQ⟩
def show_within.f (a0:Int) (a1:Int) (a2:Int):Option (Bool):=if a0≥a1 then (some (decide (a0≤a2))) else (some false)
theorem show_within.calls (a0:Int) (a1:Int) (a2:Int) (r:Bool) (w:World) (h:show_within.f a0 a1 a2=some r):
  Calls Try.prog 48 #[.int .i64 a0,.int .i64 a1,.int .i64 a2] w fun e w'=>e=.returned (.bool r)∧Drawn0 w w':=by
 have H:(if a0≥a1 then (some (decide (a0≤a2))) else (some false))=some r:=h
 clear h
 by_cases c4:a0≥a1
 ·rw [if_pos c4] at H
  have c4b0:decide (a1≤a0)=true:=decide_eq_true c4
  clear c4
  obtain rfl:=Option.some.inj H
  go_enter Try.func48,Try.ntmps48
  go_wp2
  go_ret
  exact ⟨by first | rfl | (simp;done) | (simp [*];done),zQ⟩
 ·rw [if_neg c4] at H
  have c4b0:decide (a1≤a0)=false:=decide_eq_false c4
  clear c4
  obtain rfl:=Option.some.inj H
  go_enter Try.func48,Try.ntmps48
  go_wp2
  go_ret
  exact ⟨by first | rfl | (simp;done) | (simp [*];done),zQ⟩
end Go.Proofs.Ytkjdblbgmomieaa.PSh
end
section
namespace Go.Proofs.Ytkjdblbgmomieaa.PSh
open Go.RowKit Go.Proofs.YtkjdblbgmomieaaW.PrintWords Go.Proofs.YtkjdblbgmomieaaW.PrintLast Go.Proofs.YtkjdblbgmomieaaW.PrintMore Go.Proofs.Ytkjdblbgmomieaa.Str Go.Proofs.Ytkjdblbgmomieaa.Dig
set_option linter.unusedVariables false
set_option linter.unusedSimpArgs false
def typedI (op:Int):Bool:=op==20 || op==21 || op==24
def letterL (t:Int):List UInt8:=if t=1 then [105] else if t=2 then [112] else if t=3 then [100] else [110]
def makesI (op ty:Int):Int:=if typedI op=true then ty else (opOf op).m
def wordL (op ty:Int):List UInt8:=if typedI op=true then (opOf op).w.data.toList++(46::letterL ty) else (opOf op).w.data.toList
def mayI (op t:Int):Bool:=if op=20 then t==1 || t==2 || t==3 else if op=21 then t==0 || t==1 || t==2 else if op=24 then t==2 || t==3 else t==0
def takesI (op:Int):List Int:=nz (opOf op).t0++nz (opOf op).t1
theorem typed_c (a:Int):ops_typed.f a=some (typedI a):=by
  unfold ops_typed.f typedI
  by_cases h1:a=20
  · simp [h1]
  · by_cases h2:a=21
    · simp [h2]
    · simp [h1,h2]
theorem rtyped_c (a:Int):r05_typed.f a=some (typedI a):=typed_c a
theorem letter_c (t:Int):ops_Letter.f t=some (mk (letterL t)):=by
  unfold ops_Letter.f letterL
  repeat' split
  all_goals rfl
theorem rletter_c (t:Int):r05_Letter.f t=some (mk (letterL t)):=letter_c t
theorem letterL_len (t:Int):(letterL t).length=1:=by
  unfold letterL
  repeat' split
  all_goals rfl
theorem of_c (a:Int):ops_of.f a=some ((opOf a).w,(opOf a).t0,(opOf a).t1,(opOf a).m,(opOf a).traps,(opOf a).reads,(opOf a).writes,(opOf a).seen,(opOf a).ends):=rfl
theorem word_few:∀ n:Nat,n<30→r05_word.f (n:Int)=some (opOf (n:Int)).w∧(opOf (n:Int)).w.size≤10:=by decide+kernel
theorem word_c (a:Int):r05_word.f a=some (opOf a).w∧(opOf a).w.size≤10:=by
  by_cases h:a<1∨29<a
  · have e:opOf a=noRow:=if_pos h
    rw [e]
    refine ⟨?_,by decide⟩
    unfold r05_word.f
    rw [Option.bind_some]
    by_cases h1:a<1
    · rw [if_pos h1];rfl
    · rw [if_neg h1,if_pos (by omega)];rfl
  · obtain ⟨n,rfl⟩:∃ n:Nat,a=n:=⟨a.toNat,by omega⟩
    exact word_few n (by omega)
theorem wordL_len (op ty:Int):(wordL op ty).length≤12:=by
  have h:=(word_c op).2
  rw [size_data] at h
  have h2:=letterL_len ty
  unfold wordL
  split
  · rw [List.length_append,List.length_cons];omega
  · omega
theorem words_c (a i n t:Int) (l m:List Int) (s:ByteArray) (z:Int):ops_Word.f a i n t l m s z=some (mk (wordL a t))∧r05_Word.f a i n t l m s z=some (mk (wordL a t)):=by
  obtain ⟨h6,h7⟩:=word_c a
  have h5:=letterL_len t
  have e1:(⟨#[46]⟩:ByteArray).size=1:=rfl
  have e2:(mk (letterL t)).size=1:=by rw [mk_size,h5]
  have s1:((⟨#[46]⟩:ByteArray)++mk (letterL t)).size=2:=by rw [ByteArray.size_append,e1,e2]
  have s2:((opOf a).w++(⟨#[46]⟩:ByteArray)).size=(opOf a).w.size+1:=by rw [ByteArray.size_append,e1]
  have hm:(opOf a).w=mk (opOf a).w.data.toList:=mk_data _
  have h46:(⟨#[46]⟩:ByteArray)=mk [46]:=rfl
  cases hb:typedI a with
  | true=>
    have hw:wordL a t=(opOf a).w.data.toList++(46::letterL t):=if_pos hb
    refine ⟨?_,?_⟩
    · unfold ops_Word.f
      rw [of_c]
      simp only [Option.bind_some,typed_c,letter_c,hb,if_true]
      rw [if_pos (by omega),if_pos (by omega),hw]
      refine congrArg some ?_
      conv=>lhs;rw [hm,h46,mk_append,mk_append]
      rfl
    · unfold r05_Word.f
      simp only [Option.bind_some,rtyped_c,rletter_c,h6,hb,if_true]
      rw [if_pos (by omega),if_pos (by omega),hw]
      refine congrArg some ?_
      conv=>lhs;rw [hm,h46,mk_append,mk_append]
      simp
  | false=>
    have hw:wordL a t=(opOf a).w.data.toList:=if_neg (by rw [hb];decide)
    refine ⟨?_,?_⟩
    · unfold ops_Word.f
      rw [of_c]
      simp only [Option.bind_some,typed_c,hb]
      rw [if_neg (by decide),hw,← hm]
    · unfold r05_Word.f
      simp only [Option.bind_some,rtyped_c,h6,hb]
      rw [if_neg (by decide),hw,← hm]
theorem makes_few:∀ n:Nat,n<30→∀ b:Bool,r05_typed.f (n:Int)=some b→b=true∨r05_Makes.f 41 (n:Int) 0 0 0 [] [] (⟨#[]⟩:ByteArray) 0=some (opOf (n:Int)).m:=by decide+kernel
theorem makes_c (a i n t:Int) (l m:List Int) (s:ByteArray) (z:Int):ops_Makes.f a i n t l m s z=some (makesI a t)∧r05_Makes.f 41 a i n t l m s z=some (makesI a t):=by
  cases hb:typedI a with
  | true=>
    have e:makesI a t=t:=if_pos hb
    rw [e]
    exact ⟨by simp [ops_Makes.f,typed_c,hb],by simp [r05_Makes.f,rtyped_c,hb]⟩
  | false=>
    have e:makesI a t=(opOf a).m:=if_neg (by rw [hb];decide)
    rw [e]
    refine ⟨by simp [ops_Makes.f,typed_c,hb,of_c],?_⟩
    by_cases h:a<1∨29<a
    · have e:opOf a=noRow:=if_pos h
      have b:∀ c:Int,1≤c→c≤29→(a==c)=false:=fun c _ _=>beq_eq_false_iff_ne.mpr (by omega)
      have ne:∀ c:Int,1≤c→c≤29→¬ a=c:=by omega
      rw [e]
      simp [r05_Makes.f,rtyped_c,hb,r05_Makes.j0,r05_Makes.j1,b,ne 1 (by omega) (by omega),ne 2 (by omega) (by omega),ne 3 (by omega) (by omega),ne 4 (by omega) (by omega),ne 5 (by omega) (by omega),ne 6 (by omega) (by omega),ne 7 (by omega) (by omega),ne 8 (by omega) (by omega),ne 9 (by omega) (by omega),ne 10 (by omega) (by omega),ne 11 (by omega) (by omega),ne 12 (by omega) (by omega),ne 15 (by omega) (by omega),ne 16 (by omega) (by omega),ne 17 (by omega) (by omega)]
      rfl
    · obtain ⟨q,rfl⟩:∃ q:Nat,a=q:=⟨a.toNat,by omega⟩
      rcases makes_few q (by omega) false (by rw [rtyped_c,hb]) with h8 | h8
      · cases h8
      · rw [← h8]
        simp only [r05_Makes.f,rtyped_c,hb,Option.bind_some]
        rfl
theorem may_c (a t:Int):ops_May.f a t=some (mayI a t)∧r05_May.f a t=some (mayI a t):=by
  unfold ops_May.f r05_May.f mayI
  by_cases h1:a=20
  · rw [if_pos h1,if_pos h1,if_pos h1]
    by_cases t1:t=1
    · subst t1;exact ⟨rfl,rfl⟩
    · by_cases t2:t=2
      · subst t2;exact ⟨rfl,rfl⟩
      · by_cases t3:t=3
        · subst t3;exact ⟨rfl,rfl⟩
        · refine ⟨by simp [t1,t2,t3],?_⟩
          by_cases t4:t≥1
          · rw [if_pos t4,decide_eq_false (by omega)];simp [t1,t2,t3]
          · rw [if_neg t4];simp [t1,t2,t3]
  · rw [if_neg h1,if_neg h1,if_neg h1]
    by_cases h2:a=21
    · rw [if_pos h2,if_pos h2,if_pos h2]
      by_cases t1:t=0
      · subst t1;exact ⟨rfl,rfl⟩
      · by_cases t2:t=1
        · subst t2;exact ⟨rfl,rfl⟩
        · by_cases t3:t=2
          · subst t3;exact ⟨rfl,rfl⟩
          · refine ⟨by simp [t1,t2,t3],?_⟩
            by_cases t4:t≥0
            · rw [if_pos t4,decide_eq_false (by omega)];simp [t1,t2,t3]
            · rw [if_neg t4];simp [t1,t2,t3]
    · rw [if_neg h2,if_neg h2,if_neg h2]
      by_cases h3:a=24
      · simp only [if_pos h3]
        by_cases t1:t=2
        · subst t1;exact ⟨rfl,rfl⟩
        · exact ⟨by simp [t1],by simp [t1]⟩
      · simp only [if_neg h3];exact ⟨trivial,trivial⟩
theorem takes_few:∀ n:Nat,n<30→r05_Takes.f 40 (n:Int)=some (takesI (n:Int)):=by decide+kernel
theorem rtakes_c (a:Int):r05_Takes.f 40 a=some (takesI a):=by
  by_cases h:a<1∨29<a
  · have e:takesI a=[]:=by unfold takesI opOf;rw [if_pos h];rfl
    have ne:∀ c:Int,1≤c→c≤29→c≠a:=by omega
    have b:∀ c:Int,1≤c→c≤29→(a==c)=false:=fun c _ _=>beq_eq_false_iff_ne.mpr (by omega)
    rw [e]
    unfold r05_Takes.f
    have e:∀ q:Bool,q=false→r05_Takes.j0 40 a q=some []:=by
      rintro q rfl
      simp [r05_Takes.j0,r05_Takes.j1,r05_Takes.j2,r05_Takes.j3,b,(ne 9 (by omega) (by omega)).symm,(ne 11 (by omega) (by omega)).symm,(ne 12 (by omega) (by omega)).symm,(ne 15 (by omega) (by omega)).symm,(ne 13 (by omega) (by omega)).symm,(ne 16 (by omega) (by omega)).symm,(ne 18 (by omega) (by omega)).symm,(ne 19 (by omega) (by omega)).symm,(ne 22 (by omega) (by omega)).symm,(ne 14 (by omega) (by omega)).symm,(ne 25 (by omega) (by omega)).symm,(ne 17 (by omega) (by omega)).symm,(ne 27 (by omega) (by omega)).symm]
    by_cases g:a≥2
    · rw [if_pos g];exact e _ (decide_eq_false (by omega))
    · rw [if_neg g];exact e _ rfl
  · obtain ⟨n,rfl⟩:∃ n:Nat,a=n:=⟨a.toNat,by omega⟩
    exact takes_few n (by omega)
theorem dig_nat (d:Nat) (h:d<10):(UInt8.ofNat (48+d)).toNat=48+d:=by
  rw [UInt8.toNat_ofNat'];omega
theorem one_byte (d:Int) (h0:0≤d) (h1:d<10):strOfNums [(wrap64 (48+d)) % 256]=mk [UInt8.ofNat (48+d.toNat)]:=by
  apply nums_one
  rw [dig_nat _ (by omega),w64 (by omega) (by omega)]
  omega
theorem ref_loop (x0:Int):∀ (m:Nat) (k4:Int) (acc:List UInt8),k4.natAbs=m→-9223372036854775808≤k4→k4≤9223372036854775807→acc.length+(pd k4.natAbs).length≤100→
    Ev (fun k=>r01_Print.l0 k x0 (mk acc) k4) (mk (if x0<0 then 45::(pd k4.natAbs++acc) else pd k4.natAbs++acc)):=by
  intro m
  induction m using Nat.strongRecOn with
  | _ m ih=>
    intro k4 acc hm hlo hhi hlen
    by_cases hz:k4=0
    · subst hz
      simp only [Int.natAbs_zero,pd_zero,List.nil_append] at hlen ⊢
      have hlen2:acc.length≤100:=by simpa using hlen
      refine Ev.step (f:=fun _=>if x0<0 then some (mk [45]++mk acc) else some (mk acc)) (fun k=>?_) ?_
      · simp only [r01_Print.l0]
        rw [if_pos trivial]
        by_cases h:x0<0
        · rw [if_pos h,if_pos h,if_pos (by rw [mk_size];omega)]
        · rw [if_neg h,if_neg h]
      · refine ev_if (fun h=>?_) (fun h=>?_)
        · rw [if_pos h,mk_append];exact Ev.now _
        · rw [if_neg h];exact Ev.now _
    · have hp:=pd_pos (n:=k4.natAbs) (by omega)
      have hq:(k4.tdiv 10).natAbs=k4.natAbs / 10:=by rw [Int.natAbs_tdiv];rfl
      have hr:(k4.tmod 10).natAbs=k4.natAbs % 10:=by rw [Int.natAbs_tmod];rfl
      have hb:-9223372036854775808≤k4.tdiv 10∧k4.tdiv 10≤9223372036854775807:=by omega
      have hw:wrap64 (k4.tdiv 10)=k4.tdiv 10:=w64 hb.1 hb.2
      have hl2:(UInt8.ofNat (48+k4.natAbs % 10)::acc).length+(pd (k4.tdiv 10).natAbs).length≤100:=by
        rw [hq];rw [hp] at hlen;simp at hlen ⊢;omega
      have hacc:acc.length≤100:=by omega
      have key:=ih (k4.tdiv 10).natAbs (by omega) (k4.tdiv 10) (UInt8.ofNat (48+k4.natAbs % 10)::acc) rfl hb.1 hb.2 hl2
      have e:(if x0<0 then 45::(pd (k4.tdiv 10).natAbs++UInt8.ofNat (48+k4.natAbs % 10)::acc) else pd (k4.tdiv 10).natAbs++UInt8.ofNat (48+k4.natAbs % 10)::acc)=(if x0<0 then 45::(pd k4.natAbs++acc) else pd k4.natAbs++acc):=by
        rw [hp,hq];simp
      rw [e] at key
      refine Ev.step (f:=fun k=>r01_Print.l0 k x0 (mk (UInt8.ofNat (48+k4.natAbs % 10)::acc)) (k4.tdiv 10)) (fun k=>?_) key
      have hsz:∀ c,(mk [c]).size+(mk acc).size≤9223372036854775807:=fun c=>by rw [mk_size,mk_size];simp;omega
      simp only [r01_Print.l0]
      rw [if_neg hz]
      by_cases hs:k4.tmod 10<0
      · have e1:wrap64 (-(k4.tmod 10))=((k4.natAbs % 10:Nat):Int):=by rw [w64 (by omega) (by omega)];omega
        rw [if_pos hs,e1]
        simp only [Option.bind_some]
        rw [one_byte _ (by omega) (by omega),Int.toNat_natCast,if_pos (hsz _),mk_append,hw]
        rfl
      · have e1:k4.tmod 10=((k4.natAbs % 10:Nat):Int):=by omega
        rw [if_neg hs,e1]
        simp only [Option.bind_some]
        rw [one_byte _ (by omega) (by omega),Int.toNat_natCast,if_pos (hsz _),mk_append,hw]
        rfl
theorem ref_print (a:Int) (h0:-9223372036854775808≤a) (h1:a≤9223372036854775807):Ev (fun k=>r01_Print.f k a) (mk (digs a)):=by
  unfold r01_Print.f
  refine ev_if (fun h=>?_) (fun h=>?_)
  · subst h;exact Ev.now _
  · have hl:=pd_len 30 a.natAbs (by omega)
    have:=ref_loop a _ a [] rfl h0 h1 (by simp;omega)
    have e:(if a<0 then 45::(pd a.natAbs++[]) else pd a.natAbs++[])=digs a:=by
      unfold digs;rw [if_neg h];simp
    rw [e] at this
    exact this
theorem digs_len (n:Int) (h0:-9223372036854775808≤n) (h1:n≤9223372036854775807):(digs n).length≤20:=by
  have h:=pd_len 19 n.natAbs (by omega)
  unfold digs
  split
  · simp
  · split
    · simp;omega
    · omega
theorem print_c (n:Int) (h0:-9223372036854775808≤n) (h1:n≤9223372036854775807):digits_Print.f n=some (mk (digs n)):=by
  unfold digits_Print.f
  rw [if_pos h0,if_pos h1]
theorem small_c (n:Int) (h0:-9223372036854775808≤n) (h1:n≤9223372036854775807):digits_Small.f n=some (mk (digs n)):=by
  unfold digits_Small.f
  rw [print_c n h0 h1]
  rfl
theorem value_c (n:Int) (h0:-9223372036854775808≤n) (h1:n≤9223372036854775807):show_value.f n=some (mk (37::digs n)):=by
  have h:=digs_len n h0 h1
  unfold show_value.f
  rw [small_c n h0 h1,Option.bind_some,if_pos (by rw [mk_size];omega)]
  rfl
theorem label_c (n:Int) (h0:-9223372036854775808≤n) (h1:n≤9223372036854775807):show_label.f n=some (mk (98::digs n)):=by
  have h:=digs_len n h0 h1
  unfold show_label.f
  rw [small_c n h0 h1,Option.bind_some,if_pos (by rw [mk_size];omega)]
  rfl
theorem rsmall_c (n:Int) (h0:-9223372036854775808≤n) (h1:n≤9223372036854775807):∃ k,r07_small.f k n=some (mk (digs n)):=by
  obtain ⟨k,hk⟩:=(ref_print n h0 h1).rounds
  exact ⟨k,by unfold r07_small.f;rw [hk];rfl⟩
end Go.Proofs.Ytkjdblbgmomieaa.PSh
end
