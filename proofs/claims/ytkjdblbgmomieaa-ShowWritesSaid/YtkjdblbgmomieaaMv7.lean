import Derived.Test.YtkjdblbgmomieaaMv2
import Derived.Test.YtkjdblbgmomieaaMv6
import Derived.Test.YtkjdblbgmomieaaMv3
section
namespace Go.Proofs.Ytkjdblbgmomieaa.PSh
set_option maxHeartbeats 8000000
set_option maxRecDepth 100000
open Go.RowKit Go.Proofs.YtkjdblbgmomieaaW.PrintWords Go.Proofs.YtkjdblbgmomieaaW.PrintLast Go.Proofs.YtkjdblbgmomieaaW.PrintMore Go.Proofs.Ytkjdblbgmomieaa.Zip
attribute [local go_sem] max2_int min2_int max_two min_two max_three min_three max_four min_four   -- for this text's walks alone
set_option linter.unusedVariables false
set_option linter.unusedSimpArgs false
def r01_Print.l0:Nat→Int→ByteArray→Int→Option (ByteArray)
 | 0,_,_,_=>none
 | k+1,x0,x3,x4=>if x4=0 then (if x0<0 then (if 1+x3.size≤9223372036854775807 then (some ((⟨#[45]⟩:ByteArray)++x3)) else (none)) else (some x3)) else (if (Int.tmod x4 10)<0 then ((some (([(wrap64 (48+(wrap64 (-(Int.tmod x4 10))))) % 256]:List Int):List Int)).bind fun y199=>(if (strOfNums y199).size+x3.size≤9223372036854775807 then (r01_Print.l0 k x0 ((strOfNums y199)++x3) (wrap64 (Int.tdiv x4 10))) else (none))) else ((some (([(wrap64 (48+(Int.tmod x4 10))) % 256]:List Int):List Int)).bind fun y202=>(if (strOfNums y202).size+x3.size≤9223372036854775807 then (r01_Print.l0 k x0 ((strOfNums y202)++x3) (wrap64 (Int.tdiv x4 10))) else (none))))
def r01_Print.f (k:Nat) (a0:Int):Option (ByteArray):=if a0=0 then (some (⟨#[48]⟩:ByteArray)) else (r01_Print.l0 k a0 (⟨#[]⟩:ByteArray) a0)
theorem r01_Print.mono_l:∀ k,(∀ y0 y1 y2,LeO (r01_Print.l0 k y0 y1 y2) (r01_Print.l0 (k+1) y0 y1 y2))
 | 0=>fun _ _ _ r h=>by simp [r01_Print.l0] at h
 | k+1=>by
  have ih0:=r01_Print.mono_l k
  ·intro y0 y1 y2
   unfold r01_Print.l0
   repeat' first
   | (with_reducible exact ih0 _ _ _)
   | (with_reducible exact LeO.refl _)
   | (with_reducible exact LeO.none _)
   | (with_reducible refine LeO.ite ?_ ?_)
   | (with_reducible refine LeO.bind ?_ (fun _=>?_))
   | exact ih0 _ _ _
   | exact LeO.none _
   | refine LeO.ite ?_ ?_
   | refine LeO.bind ?_ (fun _=>?_)
theorem r01_Print.mono:∀ a0 k,LeO (r01_Print.f k a0) (r01_Print.f (k+1) a0):=by
 intro a0 k
 have ih0:=r01_Print.mono_l k
 unfold r01_Print.f
 repeat' first
   | (with_reducible exact ih0 _ _ _)
   | (with_reducible exact LeO.refl _)
   | (with_reducible exact LeO.none _)
   | (with_reducible refine LeO.ite ?_ ?_)
   | (with_reducible refine LeO.bind ?_ (fun _=>?_))
   | exact ih0 _ _ _
   | exact LeO.none _
   | refine LeO.ite ?_ ?_
   | refine LeO.bind ?_ (fun _=>?_)
theorem r01_Print.calls (k:Nat) (a0:Int) (r:ByteArray) (w:World) (h:r01_Print.f k a0=some r):
  Calls Try.prog 44 #[.int .i64 a0] w fun e w'=>e=.returned (.string r)∧Below w.heap.size w w':=by
 have HB:=aM (Below.refl w.heap.size w)
 have H:(if a0=0 then (some (⟨#[48]⟩:ByteArray)) else (r01_Print.l0 k a0 (⟨#[]⟩:ByteArray) a0))=some r:=h
 clear h
 by_cases c2:a0=0
 ·rw [if_pos c2] at H
  have c2b0:(a0==0)=true:=beq_iff_eq.mpr c2
  clear c2
  obtain rfl:=Option.some.inj H
  go_enter Try.func44,Try.ntmps44
  go_wp2
  go_ret
  exact ⟨zF,zB HB.out⟩
 ·rw [if_neg c2] at H
  have c2b0:(a0==0)=false:=beq_eq_false_iff_ne.mpr c2
  have H':=aM H
  clear H
  go_enter Try.func44,Try.ntmps44
  go_wp2
  go_loopg [3,4] k (fun kq v3 v4 w'=>∃ (x3_1:ByteArray) (x4_1:Int),v3=.string x3_1∧v4=.int .i64 x4_1∧Aside0 (r01_Print.l0 kq a0 x3_1 x4_1=some r)∧Aside0 (kq≤k)∧Aside0 (Below w.heap.size w w'))
  case atStart=>exact ⟨((⟨#[]⟩:ByteArray)),(a0),(by first | rfl | (simp;done) | (simp [*];done)),(by first | rfl | (simp;done) | (simp [*];done)),H',⟨Nat.le_refl _⟩,⟨zB HB.out⟩⟩
  case round=>
   clear H' c2 c2b0
   obtain ⟨x3_1,x4_1,rfl,rfl,HA,HK1,HB⟩:=hrel
   cases gk with
   | zero=>exact absurd HA.out (by simp [r01_Print.l0])
   | succ k1=>
    have H:=HA.out
    clear HA
    simp only [r01_Print.l0] at H
    by_cases c3:x4_1=0
    ·rw [if_pos c3] at H
     have c3b1:(x4_1 !=0)=false:=bne_eq_false_iff_eq.mpr c3
     clear c3
     by_cases c4:a0<0
     ·rw [if_pos c4] at H
      have c4b0:decide (a0<0)=true:=decide_eq_true c4
      clear c4
      by_cases c5:1+x3_1.size≤9223372036854775807
      ·rw [if_pos c5] at H
       try have c5b2:(9223372036854775807<1+x3_1.size)=False:=eq_false (Nat.not_lt.2 c5)
       obtain rfl:=Option.some.inj H
       go_wp2
       go_ret
       exact ⟨zF,zB HB.out⟩
      ·rw [if_neg c5] at H
       exact absurd H (by simp)
     ·rw [if_neg c4] at H
      have c4b0:decide (a0<0)=false:=decide_eq_false c4
      clear c4
      obtain rfl:=Option.some.inj H
      go_wp2
      go_ret
      exact ⟨zF,zB HB.out⟩
    ·rw [if_neg c3] at H
     have c3b1:(x4_1 !=0)=true:=bne_iff_ne.mpr c3
     by_cases c6:(Int.tmod x4_1 10)<0
     ·rw [if_pos c6] at H
      have c6b0:decide ((Int.tmod x4_1 10)<0)=true:=decide_eq_true c6
      clear c6
      obtain ⟨y199,hy199⟩:∃ y_:List Int,y_=(([(wrap64 (48+(wrap64 (-(Int.tmod x4_1 10))))) % 256]:List Int)):=⟨_,rfl⟩
      replace H:(if (strOfNums y199).size+x3_1.size≤9223372036854775807 then (r01_Print.l0 k1 a0 ((strOfNums y199)++x3_1) (wrap64 (Int.tdiv x4_1 10))) else (none))=some r:=by first | (rw [hy199];with_reducible exact H) | (have H2_:=(Option.bind_some _ _).symm.trans H;rw [hy199];with_reducible exact H2_) | (have H2_:=(Option.bind_some _ _).symm.trans H;with_reducible exact H2_) | with_reducible exact H | (rw [hy199];exact H) | exact H
      have Ny199:=aM hy199
      clear hy199
      by_cases c7:(strOfNums y199).size+x3_1.size≤9223372036854775807
      ·rw [if_pos c7] at H
       try have c7b2:(9223372036854775807<(strOfNums y199).size+x3_1.size)=False:=eq_false (Nat.not_lt.2 c7)
       have H':=aM H
       clear H
       go_wp2_with (first | ((with_reducible refine gate_dst (N:=20) rfl ?_);refine Kd.R_lit (Kd.int .u8) _ 5 ?hg (N:=20) ?hd (xs:=([(wrap64 (48+(wrap64 (-(Int.tmod x4_1 10))))) % 256]:List Int)) (inner:=[.int .u8 ((wrap64 (48+(wrap64 (-(Int.tmod x4_1 10))))) % 256)]) (ok:=fun _=>True) (okp:=fun _=>True) ?hr ?hp (fun _ hk=>hk) trivial (Below.refl _ _) (Nat.le_refl _) (by simp) ?_;(case hd=>rfl);(case hg=>rfl);(case hr=>first | (go_simp;done) | (go_simp;rfl));(case hp=>exact (Reps.one (show Kd.M (Kd.int .u8) _ _ _ ((wrap64 (48+(wrap64 (-(Int.tmod x4_1 10))))) % 256) [.int .u8 ((wrap64 (48+(wrap64 (-(Int.tmod x4_1 10))))) % 256)] from rfl) (Reps.none _ _)));intro v200 w8 ho9 hb hg_ hnew_;clear hg_ hnew_;(first | rw [← Ny199.out] at ho9 | (simp only [Int.reduceToNat] at ho9;rw [← Ny199.out] at ho9));have n0_:=aM (Kd.R_lower ho9 (below_size (zB HB.out)));have n1_:=aM (below_step (zB HB.out) hb);clear HB;have HO201:=n0_;have HB:=n1_;clear n0_ n1_;clear hb ho9;have hcv10:=own_string (P:=Try.prog) Try.underlying53 Try.underlying5 Try.underlying9 (Kd.own_of_R HO201.out)))
       go_roundg k1
       case measure=>have:=HK1.out;omega
       case rel=>exact ⟨((strOfNums y199)++x3_1),(wrap64 (Int.tdiv x4_1 10)),(by first | rfl | (simp;done) | (simp [*];done)),(by first | rfl | (simp;done) | (simp [*];done)),H',⟨by have:=HK1.out;omega⟩,⟨zB HB.out⟩⟩
      ·rw [if_neg c7] at H
       exact absurd H (by simp)
     ·rw [if_neg c6] at H
      have c6b0:decide ((Int.tmod x4_1 10)<0)=false:=decide_eq_false c6
      clear c6
      obtain ⟨y202,hy202⟩:∃ y_:List Int,y_=(([(wrap64 (48+(Int.tmod x4_1 10))) % 256]:List Int)):=⟨_,rfl⟩
      replace H:(if (strOfNums y202).size+x3_1.size≤9223372036854775807 then (r01_Print.l0 k1 a0 ((strOfNums y202)++x3_1) (wrap64 (Int.tdiv x4_1 10))) else (none))=some r:=by first | (rw [hy202];with_reducible exact H) | (have H2_:=(Option.bind_some _ _).symm.trans H;rw [hy202];with_reducible exact H2_) | (have H2_:=(Option.bind_some _ _).symm.trans H;with_reducible exact H2_) | with_reducible exact H | (rw [hy202];exact H) | exact H
      have Ny202:=aM hy202
      clear hy202
      by_cases c11:(strOfNums y202).size+x3_1.size≤9223372036854775807
      ·rw [if_pos c11] at H
       try have c11b2:(9223372036854775807<(strOfNums y202).size+x3_1.size)=False:=eq_false (Nat.not_lt.2 c11)
       have H':=aM H
       clear H
       go_wp2_with (first | ((with_reducible refine gate_dst (N:=20) rfl ?_);refine Kd.R_lit (Kd.int .u8) _ 5 ?hg (N:=20) ?hd (xs:=([(wrap64 (48+(Int.tmod x4_1 10))) % 256]:List Int)) (inner:=[.int .u8 ((wrap64 (48+(Int.tmod x4_1 10))) % 256)]) (ok:=fun _=>True) (okp:=fun _=>True) ?hr ?hp (fun _ hk=>hk) trivial (Below.refl _ _) (Nat.le_refl _) (by simp) ?_;(case hd=>rfl);(case hg=>rfl);(case hr=>first | (go_simp;done) | (go_simp;rfl));(case hp=>exact (Reps.one (show Kd.M (Kd.int .u8) _ _ _ ((wrap64 (48+(Int.tmod x4_1 10))) % 256) [.int .u8 ((wrap64 (48+(Int.tmod x4_1 10))) % 256)] from rfl) (Reps.none _ _)));intro v203 w12 ho13 hb hg_ hnew_;clear hg_ hnew_;(first | rw [← Ny202.out] at ho13 | (simp only [Int.reduceToNat] at ho13;rw [← Ny202.out] at ho13));have n0_:=aM (Kd.R_lower ho13 (below_size (zB HB.out)));have n1_:=aM (below_step (zB HB.out) hb);clear HB;have HO204:=n0_;have HB:=n1_;clear n0_ n1_;clear hb ho13;have hcv14:=own_string (P:=Try.prog) Try.underlying53 Try.underlying5 Try.underlying9 (Kd.own_of_R HO204.out)))
       go_roundg k1
       case measure=>have:=HK1.out;omega
       case rel=>exact ⟨((strOfNums y202)++x3_1),(wrap64 (Int.tdiv x4_1 10)),(by first | rfl | (simp;done) | (simp [*];done)),(by first | rfl | (simp;done) | (simp [*];done)),H',⟨by have:=HK1.out;omega⟩,⟨zB HB.out⟩⟩
      ·rw [if_neg c11] at H
       exact absurd H (by simp)
def r07_small.f (k:Nat) (a0:Int):Option (ByteArray):=(r01_Print.f k a0).bind fun t205=>(some t205)
theorem r07_small.mono:∀ a0 k,LeO (r07_small.f k a0) (r07_small.f (k+1) a0):=by
 intro a0 k
 unfold r07_small.f
 repeat' first
   | (with_reducible exact r01_Print.mono _ _)
   | (with_reducible exact LeO.refl _)
   | (with_reducible exact LeO.none _)
   | (with_reducible refine LeO.ite ?_ ?_)
   | (with_reducible refine LeO.bind ?_ (fun _=>?_))
   | exact r01_Print.mono _ _
   | exact LeO.none _
   | refine LeO.ite ?_ ?_
   | refine LeO.bind ?_ (fun _=>?_)
theorem r07_small.calls (k:Nat) (a0:Int) (r:ByteArray) (w:World) (h:r07_small.f k a0=some r):
  Calls Try.prog 36 #[.int .i64 a0] w fun e w'=>e=.returned (.string r)∧Below w.heap.size w w':=by
 have HB:=aM (Below.refl w.heap.size w)
 have H:((r01_Print.f k a0).bind fun t205=>(some t205))=some r:=h
 clear h
 replace H:=Option.bind_eq_some_iff.mp H
 obtain ⟨t205,A20,H⟩:=H
 have A2:=aM A20
 clear A20
 obtain rfl:=Option.some.inj H
 go_enter Try.func36,Try.ntmps36
 go_wp2_with (first | ((with_reducible refine gate_callee (f:=44) rfl ?_);refine goesL_ (some 4) rfl rfl Try.func44 (by kernel_rfl) rfl #[.int .i64 a0] rfl zA ?_;(with_reducible refine (r01_Print.calls k a0 t205 _ A2.out).mono ?_);rintro e w3 ⟨rfl,hb⟩;refine ⟨_,rfl,?_⟩;have n0_:=aM (below_step (zB HB.out) hb);clear HB;have HB:=n0_;clear n0_;(try clear hb);(try clear hb2);(try clear hk);(try clear hi)))
 go_ret
 exact ⟨zF,zB HB.out⟩
def r05_Letter.f (a0:Int):Option (ByteArray):=if a0=1 then (some (⟨#[105]⟩:ByteArray)) else (if a0=2 then (some (⟨#[112]⟩:ByteArray)) else (if a0=3 then (some (⟨#[100]⟩:ByteArray)) else (some (⟨#[110]⟩:ByteArray))))
theorem r05_Letter.calls (a0:Int) (r:ByteArray) (w:World) (h:r05_Letter.f a0=some r):
  Calls Try.prog 35 #[.int .i64 a0] w fun e w'=>e=.returned (.string r)∧Drawn0 w w':=by
 have H:(if a0=1 then (some (⟨#[105]⟩:ByteArray)) else (if a0=2 then (some (⟨#[112]⟩:ByteArray)) else (if a0=3 then (some (⟨#[100]⟩:ByteArray)) else (some (⟨#[110]⟩:ByteArray)))))=some r:=h
 clear h
 by_cases c2:a0=1
 ·rw [if_pos c2] at H
  have c2b0:(a0==1)=true:=beq_iff_eq.mpr c2
  clear c2
  obtain rfl:=Option.some.inj H
  go_enter Try.func35,Try.ntmps35
  go_wp2
  go_ret
  exact ⟨by first | rfl | (simp;done) | (simp [*];done),zQ⟩
 ·rw [if_neg c2] at H
  have c2b0:(a0==1)=false:=beq_eq_false_iff_ne.mpr c2
  by_cases c3:a0=2
  ·rw [if_pos c3] at H
   have c3b0:(a0==2)=true:=beq_iff_eq.mpr c3
   clear c3
   obtain rfl:=Option.some.inj H
   go_enter Try.func35,Try.ntmps35
   go_wp2
   go_ret
   exact ⟨by first | rfl | (simp;done) | (simp [*];done),zQ⟩
  ·rw [if_neg c3] at H
   have c3b0:(a0==2)=false:=beq_eq_false_iff_ne.mpr c3
   by_cases c4:a0=3
   ·rw [if_pos c4] at H
    have c4b0:(a0==3)=true:=beq_iff_eq.mpr c4
    clear c4
    obtain rfl:=Option.some.inj H
    go_enter Try.func35,Try.ntmps35
    go_wp2
    go_ret
    exact ⟨by first | rfl | (simp;done) | (simp [*];done),zQ⟩
   ·rw [if_neg c4] at H
    have c4b0:(a0==3)=false:=beq_eq_false_iff_ne.mpr c4
    obtain rfl:=Option.some.inj H
    go_enter Try.func35,Try.ntmps35
    go_wp2
    go_ret
    exact ⟨by first | rfl | (simp;done) | (simp [*];done),zQ⟩
abbrev Yl:List ByteArray:=[(⟨#[]⟩:ByteArray),(⟨#[99,111,110,115,116]⟩:ByteArray),(⟨#[97,100,100]⟩:ByteArray),(⟨#[115,117,98]⟩:ByteArray),(⟨#[109,117,108]⟩:ByteArray),(⟨#[100,105,118]⟩:ByteArray),(⟨#[108,116]⟩:ByteArray),(⟨#[101,113]⟩:ByteArray),(⟨#[110,105,108]⟩:ByteArray),(⟨#[115,97,109,101]⟩:ByteArray),(⟨#[110,101,119]⟩:ByteArray),(⟨#[108,111,97,100,46,105]⟩:ByteArray),(⟨#[108,111,97,100,46,112]⟩:ByteArray),(⟨#[115,116,111,114,101,46,105]⟩:ByteArray),(⟨#[115,116,111,114,101,46,112]⟩:ByteArray),(⟨#[115,108,111,116]⟩:ByteArray),(⟨#[103,101,116,46,105]⟩:ByteArray),(⟨#[103,101,116,46,112]⟩:ByteArray),(⟨#[112,117,116,46,105]⟩:ByteArray),(⟨#[112,117,116,46,112]⟩:ByteArray),(⟨#[112,104,105]⟩:ByteArray),(⟨#[99,97,108,108]⟩:ByteArray),(⟨#[111,117,116]⟩:ByteArray),(⟨#[112,111,108,108]⟩:ByteArray),(⟨#[114,101,108,111,99]⟩:ByteArray),(⟨#[109,97,114,107]⟩:ByteArray),(⟨#[98,114]⟩:ByteArray),(⟨#[105,102]⟩:ByteArray),(⟨#[114,101,116]⟩:ByteArray),(⟨#[102,97,105,108]⟩:ByteArray)]
theorem reps_str {R:ByteArray→List Value→Prop} (hR:∀ s,R s [.string s]):∀ l:List ByteArray,Reps R 1 l (l.map .string)
 | []=>Reps.none _ _
 | a::l=>Reps.one (hR a) (reps_str hR l)
def r05_word.f (a0:Int):Option (ByteArray):=(some (Yl:List ByteArray)).bind fun y206=>(if a0<1 then (some (⟨#[]⟩:ByteArray)) else (if a0>29 then (some (⟨#[]⟩:ByteArray)) else (if 0≤a0 then (if a0<(y206.length:Int) then (some (rdOf ByteArray.empty y206 a0)) else (none)) else (none))))
theorem r05_word.calls (a0:Int) (r:ByteArray) (w:World) (h:r05_word.f a0=some r):
  Calls Try.prog 70 #[.int .i64 a0] w fun e w'=>e=.returned (.string r)∧Below w.heap.size w w':=by
 have HB:=aM (Below.refl w.heap.size w)
 have H:((some (Yl:List ByteArray)).bind fun y206=>(if a0<1 then (some (⟨#[]⟩:ByteArray)) else (if a0>29 then (some (⟨#[]⟩:ByteArray)) else (if 0≤a0 then (if a0<(y206.length:Int) then (some (rdOf ByteArray.empty y206 a0)) else (none)) else (none)))))=some r:=h
 clear h
 obtain ⟨y206,hy206⟩:∃ y_:List ByteArray,y_=(Yl):=⟨_,rfl⟩
 replace H:(if a0<1 then (some (⟨#[]⟩:ByteArray)) else (if a0>29 then (some (⟨#[]⟩:ByteArray)) else (if 0≤a0 then (if a0<(y206.length:Int) then (some (rdOf ByteArray.empty y206 a0)) else (none)) else (none))))=some r:=by first | (rw [hy206];with_reducible exact H) | (have H2_:=(Option.bind_some _ _).symm.trans H;rw [hy206];with_reducible exact H2_) | (have H2_:=(Option.bind_some _ _).symm.trans H;with_reducible exact H2_) | with_reducible exact H | (rw [hy206];exact H) | exact H
 have Ny206:=aM hy206
 clear hy206
 by_cases c2:a0<1
 ·rw [if_pos c2] at H
  have c2b0:decide (a0<1)=true:=decide_eq_true c2
  clear c2
  obtain rfl:=Option.some.inj H
  go_enter Try.func70,Try.ntmps70
  go_wp2_with (first | ((with_reducible refine gate_dst (N:=4) rfl ?_);refine Kd.R_lit Kd.string _ 9 ?hg (N:=4) ?hd (xs:=Yl) (inner:=[.string (⟨#[]⟩:ByteArray),.string (⟨#[99,111,110,115,116]⟩:ByteArray),.string (⟨#[97,100,100]⟩:ByteArray),.string (⟨#[115,117,98]⟩:ByteArray),.string (⟨#[109,117,108]⟩:ByteArray),.string (⟨#[100,105,118]⟩:ByteArray),.string (⟨#[108,116]⟩:ByteArray),.string (⟨#[101,113]⟩:ByteArray),.string (⟨#[110,105,108]⟩:ByteArray),.string (⟨#[115,97,109,101]⟩:ByteArray),.string (⟨#[110,101,119]⟩:ByteArray),.string (⟨#[108,111,97,100,46,105]⟩:ByteArray),.string (⟨#[108,111,97,100,46,112]⟩:ByteArray),.string (⟨#[115,116,111,114,101,46,105]⟩:ByteArray),.string (⟨#[115,116,111,114,101,46,112]⟩:ByteArray),.string (⟨#[115,108,111,116]⟩:ByteArray),.string (⟨#[103,101,116,46,105]⟩:ByteArray),.string (⟨#[103,101,116,46,112]⟩:ByteArray),.string (⟨#[112,117,116,46,105]⟩:ByteArray),.string (⟨#[112,117,116,46,112]⟩:ByteArray),.string (⟨#[112,104,105]⟩:ByteArray),.string (⟨#[99,97,108,108]⟩:ByteArray),.string (⟨#[111,117,116]⟩:ByteArray),.string (⟨#[112,111,108,108]⟩:ByteArray),.string (⟨#[114,101,108,111,99]⟩:ByteArray),.string (⟨#[109,97,114,107]⟩:ByteArray),.string (⟨#[98,114]⟩:ByteArray),.string (⟨#[105,102]⟩:ByteArray),.string (⟨#[114,101,116]⟩:ByteArray),.string (⟨#[102,97,105,108]⟩:ByteArray)]) (ok:=fun _=>True) (okp:=fun _=>True) ?hr ?hp (fun _ hk=>hk) trivial (Below.refl _ _) (Nat.le_refl _) (by simp) ?_;(case hd=>rfl);(case hg=>rfl);(case hr=>first | (go_simp;done) | (go_simp;rfl));(case hp=>exact reps_str (R:=Kd.string.M _ _ _) (fun s=>show Kd.M Kd.string _ _ _ s [.string s] from rfl) Yl);intro v207 w3 ho4 hb hg_ hnew_;clear hg_ hnew_;(first | rw [← Ny206.out] at ho4 | (simp only [Int.reduceToNat] at ho4;rw [← Ny206.out] at ho4));have n0_:=aM (Kd.R_lower ho4 (below_size (zB HB.out)));have n1_:=aM (below_step (zB HB.out) hb);clear HB;have HO208:=n0_;have HB:=n1_;clear n0_ n1_;clear hb ho4))
  go_ret
  exact ⟨zF,zB HB.out⟩
 ·rw [if_neg c2] at H
  have c2b0:decide (a0<1)=false:=decide_eq_false c2
  clear c2
  by_cases c5:a0>29
  ·rw [if_pos c5] at H
   have c5b0:decide (29<a0)=true:=decide_eq_true c5
   clear c5
   obtain rfl:=Option.some.inj H
   go_enter Try.func70,Try.ntmps70
   go_wp2_with (first | ((with_reducible refine gate_dst (N:=4) rfl ?_);refine Kd.R_lit Kd.string _ 9 ?hg (N:=4) ?hd (xs:=Yl) (inner:=[.string (⟨#[]⟩:ByteArray),.string (⟨#[99,111,110,115,116]⟩:ByteArray),.string (⟨#[97,100,100]⟩:ByteArray),.string (⟨#[115,117,98]⟩:ByteArray),.string (⟨#[109,117,108]⟩:ByteArray),.string (⟨#[100,105,118]⟩:ByteArray),.string (⟨#[108,116]⟩:ByteArray),.string (⟨#[101,113]⟩:ByteArray),.string (⟨#[110,105,108]⟩:ByteArray),.string (⟨#[115,97,109,101]⟩:ByteArray),.string (⟨#[110,101,119]⟩:ByteArray),.string (⟨#[108,111,97,100,46,105]⟩:ByteArray),.string (⟨#[108,111,97,100,46,112]⟩:ByteArray),.string (⟨#[115,116,111,114,101,46,105]⟩:ByteArray),.string (⟨#[115,116,111,114,101,46,112]⟩:ByteArray),.string (⟨#[115,108,111,116]⟩:ByteArray),.string (⟨#[103,101,116,46,105]⟩:ByteArray),.string (⟨#[103,101,116,46,112]⟩:ByteArray),.string (⟨#[112,117,116,46,105]⟩:ByteArray),.string (⟨#[112,117,116,46,112]⟩:ByteArray),.string (⟨#[112,104,105]⟩:ByteArray),.string (⟨#[99,97,108,108]⟩:ByteArray),.string (⟨#[111,117,116]⟩:ByteArray),.string (⟨#[112,111,108,108]⟩:ByteArray),.string (⟨#[114,101,108,111,99]⟩:ByteArray),.string (⟨#[109,97,114,107]⟩:ByteArray),.string (⟨#[98,114]⟩:ByteArray),.string (⟨#[105,102]⟩:ByteArray),.string (⟨#[114,101,116]⟩:ByteArray),.string (⟨#[102,97,105,108]⟩:ByteArray)]) (ok:=fun _=>True) (okp:=fun _=>True) ?hr ?hp (fun _ hk=>hk) trivial (Below.refl _ _) (Nat.le_refl _) (by simp) ?_;(case hd=>rfl);(case hg=>rfl);(case hr=>first | (go_simp;done) | (go_simp;rfl));(case hp=>exact reps_str (R:=Kd.string.M _ _ _) (fun s=>show Kd.M Kd.string _ _ _ s [.string s] from rfl) Yl);intro v207 w6 ho7 hb hg_ hnew_;clear hg_ hnew_;(first | rw [← Ny206.out] at ho7 | (simp only [Int.reduceToNat] at ho7;rw [← Ny206.out] at ho7));have n0_:=aM (Kd.R_lower ho7 (below_size (zB HB.out)));have n1_:=aM (below_step (zB HB.out) hb);clear HB;have HO208:=n0_;have HB:=n1_;clear n0_ n1_;clear hb ho7))
   go_ret
   exact ⟨zF,zB HB.out⟩
  ·rw [if_neg c5] at H
   have c5b0:decide (29<a0)=false:=decide_eq_false c5
   clear c5
   by_cases c8:0≤a0
   ·rw [if_pos c8] at H
    have c8b0:decide (0≤a0)=true:=decide_eq_true c8
    clear c8
    by_cases c9:a0<(y206.length:Int)
    ·rw [if_pos c9] at H
     have c9b0:decide (a0<(y206.length:Int))=true:=decide_eq_true c9
     clear c9
     obtain rfl:=Option.some.inj H
     go_enter Try.func70,Try.ntmps70
     go_wp2_with (first | ((with_reducible refine gate_dst (N:=4) rfl ?_);refine Kd.R_lit Kd.string _ 9 ?hg (N:=4) ?hd (xs:=Yl) (inner:=[.string (⟨#[]⟩:ByteArray),.string (⟨#[99,111,110,115,116]⟩:ByteArray),.string (⟨#[97,100,100]⟩:ByteArray),.string (⟨#[115,117,98]⟩:ByteArray),.string (⟨#[109,117,108]⟩:ByteArray),.string (⟨#[100,105,118]⟩:ByteArray),.string (⟨#[108,116]⟩:ByteArray),.string (⟨#[101,113]⟩:ByteArray),.string (⟨#[110,105,108]⟩:ByteArray),.string (⟨#[115,97,109,101]⟩:ByteArray),.string (⟨#[110,101,119]⟩:ByteArray),.string (⟨#[108,111,97,100,46,105]⟩:ByteArray),.string (⟨#[108,111,97,100,46,112]⟩:ByteArray),.string (⟨#[115,116,111,114,101,46,105]⟩:ByteArray),.string (⟨#[115,116,111,114,101,46,112]⟩:ByteArray),.string (⟨#[115,108,111,116]⟩:ByteArray),.string (⟨#[103,101,116,46,105]⟩:ByteArray),.string (⟨#[103,101,116,46,112]⟩:ByteArray),.string (⟨#[112,117,116,46,105]⟩:ByteArray),.string (⟨#[112,117,116,46,112]⟩:ByteArray),.string (⟨#[112,104,105]⟩:ByteArray),.string (⟨#[99,97,108,108]⟩:ByteArray),.string (⟨#[111,117,116]⟩:ByteArray),.string (⟨#[112,111,108,108]⟩:ByteArray),.string (⟨#[114,101,108,111,99]⟩:ByteArray),.string (⟨#[109,97,114,107]⟩:ByteArray),.string (⟨#[98,114]⟩:ByteArray),.string (⟨#[105,102]⟩:ByteArray),.string (⟨#[114,101,116]⟩:ByteArray),.string (⟨#[102,97,105,108]⟩:ByteArray)]) (ok:=fun _=>True) (okp:=fun _=>True) ?hr ?hp (fun _ hk=>hk) trivial (Below.refl _ _) (Nat.le_refl _) (by simp) ?_;(case hd=>rfl);(case hg=>rfl);(case hr=>first | (go_simp;done) | (go_simp;rfl));(case hp=>exact reps_str (R:=Kd.string.M _ _ _) (fun s=>show Kd.M Kd.string _ _ _ s [.string s] from rfl) Yl);intro v207 w10 ho11 hb hg_ hnew_;clear hg_ hnew_;(first | rw [← Ny206.out] at ho11 | (simp only [Int.reduceToNat] at ho11;rw [← Ny206.out] at ho11));have n0_:=aM (Kd.R_lower ho11 (below_size (zB HB.out)));have n1_:=aM (below_step (zB HB.out) hb);clear HB;have HO208:=n0_;have HB:=n1_;clear n0_ n1_;clear hb ho11;obtain ⟨Ao12,co12,eo12⟩:=Kd.R_slice HO208.out;subst eo12;have p209:0≤(a0:Int):=of_decide_eq_true zS;have q209:a0<(y206.length:Int):=of_decide_eq_true zS;obtain ⟨ad209,e209,hx209_0⟩:=Kd.at_string (Kd.R_reads' HO208.out).2.2 a0 p209 q209;cases e209;replace p209:=eq_true p209;replace q209:=eq_true q209))
     go_ret
     exact ⟨zF,zB HB.out⟩
    ·rw [if_neg c9] at H
     exact absurd H (by simp)
   ·rw [if_neg c8] at H
    exact absurd H (by simp)
def r05_Word.f (a0_0:Int) (a0_1:Int) (a0_2:Int) (a0_3:Int) (l0_4:List Int) (l0_5:List Int) (a0_6:ByteArray) (a0_7:Int):Option (ByteArray):=(r05_typed.f a0_0).bind fun t211=>(if t211=true then ((r05_word.f a0_0).bind fun t212=>(if t212.size+1≤9223372036854775807 then ((r05_Letter.f a0_3).bind fun t213=>(if (t212++(⟨#[46]⟩:ByteArray)).size+t213.size≤9223372036854775807 then (some ((t212++(⟨#[46]⟩:ByteArray))++t213)) else (none))) else (none))) else ((r05_word.f a0_0).bind fun t214=>(some t214)))
def r05_Word.T2:Bool × List (List Nat × List Nat):=(true,[([],[]),([0],[0]),([1],[1]),([2],[2]),([],[]),([4],[4]),([5,2],[5]),([3,6],[3,6]),([7,6,0,1,2,3,4,5,6,7],[7])])
def r05_Word.B2:List Nat:=[0,1,3,7,0,16,55,127,255]
theorem r05_Word.tab2:rtab .any (opsOf Try.f43 2)=r05_Word.T2:=by kernel_rfl
theorem r05_Word.bits2:waitsOk r05_Word.T2.2 r05_Word.B2=true:=by kernel_rfl
theorem r05_Word.calls (a0_0:Int) (a0_1:Int) (a0_2:Int) (a0_3:Int) (A0_4:Option Addr) (c0_4:Nat) (l0_4:List Int) (A0_5:Option Addr) (c0_5:Nat) (l0_5:List Int) (a0_6:ByteArray) (a0_7:Int) (r:ByteArray) (w:World) (hr0_4:Kd.C (Kd.int .i64) w A0_4 l0_4.length l0_4) (hc0_4:l0_4.length≤c0_4) (hr0_5:Kd.C (Kd.int .i64) w A0_5 l0_5.length l0_5) (hc0_5:l0_5.length≤c0_5) (h:r05_Word.f a0_0 a0_1 a0_2 a0_3 l0_4 l0_5 a0_6 a0_7=some r):
  Calls Try.prog 43 #[.agg #[.int .i64 a0_0,.int .i64 a0_1,.int .i64 a0_2,.int .i64 a0_3,.slice A0_4 l0_4.length c0_4,.slice A0_5 l0_5.length c0_5,.string a0_6,.int .i64 a0_7]] w fun e w'=>e=.returned (.string r)∧Below w.heap.size w w':=by
 clear hr0_4 hc0_4 hr0_5 hc0_5
 have HB:=aM (Below.refl w.heap.size w)
 have H:((r05_typed.f a0_0).bind fun t211=>(if t211=true then ((r05_word.f a0_0).bind fun t212=>(if t212.size+1≤9223372036854775807 then ((r05_Letter.f a0_3).bind fun t213=>(if (t212++(⟨#[46]⟩:ByteArray)).size+t213.size≤9223372036854775807 then (some ((t212++(⟨#[46]⟩:ByteArray))++t213)) else (none))) else (none))) else ((r05_word.f a0_0).bind fun t214=>(some t214))))=some r:=h
 clear h
 replace H:=Option.bind_eq_some_iff.mp H
 obtain ⟨t211,A20,H⟩:=H
 have A2:=aM A20
 clear A20
 by_cases c3:t211=true
 ·subst c3
  have H1:((r05_word.f a0_0).bind fun t212=>(if t212.size+1≤9223372036854775807 then ((r05_Letter.f a0_3).bind fun t213=>(if (t212++(⟨#[46]⟩:ByteArray)).size+t213.size≤9223372036854775807 then (some ((t212++(⟨#[46]⟩:ByteArray))++t213)) else (none))) else (none)))=some r:=by rw [if_pos rfl] at H;exact H
  clear H
  have H:=H1
  clear H1
  replace H:=Option.bind_eq_some_iff.mp H
  obtain ⟨t212,A40,H⟩:=H
  have A4:=aM A40
  clear A40
  by_cases c5:t212.size+1≤9223372036854775807
  ·rw [if_pos c5] at H
   try have c5b2:(9223372036854775807<t212.size+1)=False:=eq_false (Nat.not_lt.2 c5)
   replace H:=Option.bind_eq_some_iff.mp H
   obtain ⟨t213,A60,H⟩:=H
   have A6:=aM A60
   clear A60
   by_cases c7:(t212++(⟨#[46]⟩:ByteArray)).size+t213.size≤9223372036854775807
   ·rw [if_pos c7] at H
    try have c7b2:(9223372036854775807<(t212++(⟨#[46]⟩:ByteArray)).size+t213.size)=False:=eq_false (Nat.not_lt.2 c7)
    try (have c7b3:=c7b2;simp only [ByteArray.size_append,show ((⟨#[46]⟩:ByteArray)).size=1 from rfl] at c7b3)
    obtain rfl:=Option.some.inj H
    go_enter Try.func43,Try.ntmps43
    try go_wp2_with (first | ((with_reducible refine gate_dst (N:=1) rfl ?_);refine box_event ?hg (N:=1) ?hd (cs:=#[.int .i64 a0_0,.int .i64 a0_1,.int .i64 a0_2,.int .i64 a0_3,.slice A0_4 l0_4.length c0_4,.slice A0_5 l0_5.length c0_5,.string a0_6,.int .i64 a0_7]) (t:=39) ?hr ?_;(case hd=>rfl);(case hg=>rfl);(case hr=>first | (go_simp;done) | (go_simp;rfl));intro gb210 hg w8 hbox hb;have n0_:=aM (below_step (zB HB.out) hb);have n1_:=aM (hbox);have n2_:=aM ((by rw [hg];exact (below_size (zB HB.out)):w.heap.size≤gb210));have n3_:=aM ((by rw [hg];exact (below_size (zB HB.out)):w.heap.size≤gb210));clear HB;have HB:=n0_;have BK210:=n1_;have GE210:=n3_;clear n0_ n1_ n2_ n3_;clear hb hbox hg;have hcz9_0:w8.cell? ⟨gb210,0,none⟩=some (.int .i64 a0_0):=(blk_cell BK210.out 0).trans rfl) | ((with_reducible refine gate_callee (f:=63) rfl ?_);refine goesL_ (some 5) rfl rfl Try.func63 (by kernel_rfl) rfl #[.int .i64 a0_0] rfl zA ?_;(with_reducible refine (r05_typed.calls a0_0 true _ A2.out).mono ?_);rintro e w' ⟨rfl,⟨nd,rfl⟩⟩;refine ⟨_,rfl,?_⟩))
    (try (rw [drewN_self w8];generalize hq_:World.drewN w8 _=w8;have n0_:Aside0 (w8.heap[gb210]?=some (.cells #[.int .i64 a0_0,.int .i64 a0_1,.int .i64 a0_2,.int .i64 a0_3,.slice A0_4 l0_4.length c0_4,.slice A0_5 l0_5.length c0_5,.string a0_6,.int .i64 a0_7] 39 (0,0))):=⟨by rw [← hq_];exact (zK BK210.out)⟩;have n1_:Aside0 (Below w.heap.size w w8):=⟨by rw [← hq_];exact (zC HB.out GE210.out)⟩;clear BK210 HB hq_;have BK210:=n0_;have HB:=n1_;clear n0_ n1_))
    have n0_:=aM (blk_drew BK210.out)
    have n1_:=aM (below_drew1 HB.out)
    clear BK210 HB
    have BK210:=n0_
    have HB:=n1_
    clear n0_ n1_
    refine start_ (n:=9) (S:=fun w'=>w'.cell? ⟨gb210,0,none⟩=some (.int .i64 a0_0)∧w'.cell? ⟨gb210,1,none⟩=some (.int .i64 a0_1)∧w'.cell? ⟨gb210,2,none⟩=some (.int .i64 a0_2)∧w'.cell? ⟨gb210,3,none⟩=some (.int .i64 a0_3)∧w'.cell? ⟨gb210,4,none⟩=some (.slice A0_4 l0_4.length c0_4)∧w'.cell? ⟨gb210,5,none⟩=some (.slice A0_5 l0_5.length c0_5)∧w'.cell? ⟨gb210,6,none⟩=some (.string a0_6)∧w'.cell? ⟨gb210,7,none⟩=some (.int .i64 a0_7)) (ds:=[]) #[false,false,false,false,false,false,false,false,false] (by kernel_rfl) rfl rfl ⟨(blk_cell BK210.out 0).trans rfl,(blk_cell BK210.out 1).trans rfl,(blk_cell BK210.out 2).trans rfl,(blk_cell BK210.out 3).trans rfl,(blk_cell BK210.out 4).trans rfl,(blk_cell BK210.out 5).trans rfl,(blk_cell BK210.out 6).trans rfl,(blk_cell BK210.out 7).trans rfl⟩ (fun hHeld=>?_);refine with_tabW r05_Word.tab2 r05_Word.bits2 (fun HT_ HW_=>?_)
    generalize w8.drew=w10 at BK210 HB hHeld ⊢
    refine pure_ (i:=0) (N:=some 6) (v:=?_) (a':=?_) #[true,false,false,false,false,false,false,false,false] rfl rfl (any_of HT_.out (by kernel_rfl)) (fun _ _ _ h=>h) (Or.inl ⟨by rfl,?_⟩) ?_ ?_
    rotate_left
    ·intro w'
     go_simp
     with_reducible rfl
    rotate_left
    ·simp only [Act.put,qA,qB,qC,i64_w,i32_w]
     rfl
    refine pure_ (i:=4) (N:=some 10) (v:=?_) (a':=?_) #[true,false,false,false,true,false,false,false,false] rfl rfl (any_of HT_.out (by kernel_rfl)) (fun _ _ _ h=>h) (Or.inl ⟨by rfl,?_⟩) ?_ ?_
    rotate_left
    ·intro w'
     go_simp
     with_reducible rfl
    rotate_left
    ·simp only [Act.put,qA,qB,qC,i64_w,i32_w]
     rfl
    refine take_ (i:=1) (N:=some 7) (v:=?_) (a':=?_) #[true,true,false,false,true,false,false,false,false] rfl rfl (take_ofW HT_.out HW_.out (by kernel_rfl)) (fun _ _ _ h=>h) (Or.inl ⟨by rfl,?_⟩) hHeld ?_ ?_
    rotate_left
    ·rintro w' ⟨s0,s1,s2,s3,s4,s5,s6,s7⟩
     go_simp
     with_reducible rfl
    rotate_left
    ·simp only [Act.put,qA,qB,qC,i64_w,i32_w]
     rfl
    refine take_ (i:=5) (N:=some 11) (v:=?_) (a':=?_) #[true,true,false,false,true,true,false,false,false] rfl rfl (take_ofW HT_.out HW_.out (by kernel_rfl)) (fun _ _ _ h=>h) (Or.inl ⟨by rfl,?_⟩) hHeld ?_ ?_
    rotate_left
    ·rintro w' ⟨s0,s1,s2,s3,s4,s5,s6,s7⟩
     go_simp
     with_reducible rfl
    rotate_left
    ·simp only [Act.put,qA,qB,qC,i64_w,i32_w]
     rfl
    refine one_ (i:=2) (N:=some 8) #[true,true,true,false,true,true,false,false,false] rfl rfl (one_of HT_.out (by kernel_rfl)) (by decide) (fun K hK=>?_)
    refine goes_ Try.func70 (by kernel_rfl) rfl #[.int .i64 a0_0] (by rfl) rfl rfl zA ?_
    with_reducible refine (r05_word.calls a0_0 t212 _ A4.out).mono ?_
    rintro e w11 ⟨rfl,hb⟩
    refine ⟨_,rfl,?_⟩
    have n0_:=aM (blk_below (g:=gb210) (o:=.cells #[.int .i64 a0_0,.int .i64 a0_1,.int .i64 a0_2,.int .i64 a0_3,.slice A0_4 l0_4.length c0_4,.slice A0_5 l0_5.length c0_5,.string a0_6,.int .i64 a0_7] 39 (0,0)) (zK BK210.out) hb)
    have n1_:=aM (below_step (zC HB.out GE210.out) hb)
    clear BK210 HB
    have BK210:=n0_
    have HB:=n1_
    clear n0_ n1_
    (try clear hb)
    (try clear hb2)
    (try clear hk)
    (try clear hi)
    refine hK.out _ _ ⟨(blk_cell BK210.out 0).trans rfl,(blk_cell BK210.out 1).trans rfl,(blk_cell BK210.out 2).trans rfl,(blk_cell BK210.out 3).trans rfl,(blk_cell BK210.out 4).trans rfl,(blk_cell BK210.out 5).trans rfl,(blk_cell BK210.out 6).trans rfl,(blk_cell BK210.out 7).trans rfl⟩ (fun hHeld=>?_)
    clear hK K
    refine norm_ (a':=?_) ?_ ?_
    rotate_left
    ·show Act.put _ (some 8) _=_
     simp only [Act.put,qA,qB,qC,i64_w,i32_w]
     rfl
    refine pure_ (i:=3) (N:=some 9) (v:=?_) (a':=?_) #[true,true,true,true,true,true,false,false,false] rfl rfl (any_of HT_.out (by kernel_rfl)) (fun _ _ _ h=>h) (Or.inl ⟨by rfl,?_⟩) ?_ ?_
    rotate_left
    ·intro w'
     go_simp
     with_reducible rfl
    rotate_left
    ·simp only [Act.put,qA,qB,qC,i64_w,i32_w]
     rfl
    refine one_ (i:=6) (N:=some 12) #[true,true,true,true,true,true,true,false,false] rfl rfl (one_of HT_.out (by kernel_rfl)) (by decide) (fun K hK=>?_)
    refine goes_ Try.func35 (by kernel_rfl) rfl #[.int .i64 a0_3] (by rfl) rfl rfl zA ?_
    with_reducible refine (r05_Letter.calls a0_3 t213 _ A6.out).mono ?_
    rintro e w' ⟨rfl,⟨nd,rfl⟩⟩
    refine ⟨_,rfl,?_⟩
    refine hK.out _ _ ⟨(blk_cell BK210.out 0).trans rfl,(blk_cell BK210.out 1).trans rfl,(blk_cell BK210.out 2).trans rfl,(blk_cell BK210.out 3).trans rfl,(blk_cell BK210.out 4).trans rfl,(blk_cell BK210.out 5).trans rfl,(blk_cell BK210.out 6).trans rfl,(blk_cell BK210.out 7).trans rfl⟩ (fun hHeld=>?_)
    clear hK K
    refine norm_ (a':=?_) ?_ ?_
    rotate_left
    ·show Act.put _ (some 12) _=_
     simp only [Act.put,qA,qB,qC,i64_w,i32_w]
     rfl
    refine pure_ (i:=7) (N:=some 13) (v:=?_) (a':=?_) #[true,true,true,true,true,true,true,true,false] rfl rfl (any_of HT_.out (by kernel_rfl)) (fun _ _ _ h=>h) (Or.inl ⟨by rfl,?_⟩) ?_ ?_
    rotate_left
    ·intro w'
     go_simp
     with_reducible rfl
    rotate_left
    ·simp only [Act.put,qA,qB,qC,i64_w,i32_w]
     rfl
    refine pure_ (i:=8) (N:=some 2) (v:=?_) (a':=?_) #[true,true,true,true,true,true,true,true,true] rfl rfl (any_of HT_.out (by kernel_rfl)) (fun _ _ _ h=>h) (Or.inl ⟨by rfl,?_⟩) ?_ ?_
    rotate_left
    ·intro w'
     go_simp
     with_reducible rfl
    rotate_left
    ·simp only [Act.put,qA,qB,qC,i64_w,i32_w]
     rfl
    refine done_ (done_of HT_.out (by kernel_rfl)) ?_
    try go_wp2
    go_ret
    exact ⟨zF,zC HB.out GE210.out⟩
   ·rw [if_neg c7] at H
    exact absurd H (by simp)
  ·rw [if_neg c5] at H
   exact absurd H (by simp)
 ·replace c3:=Bool.eq_false_iff.mpr c3
  subst c3
  have H1:((r05_word.f a0_0).bind fun t214=>(some t214))=some r:=by rw [if_neg (show ¬ (false=true) by decide)] at H;exact H
  clear H
  have H:=H1
  clear H1
  replace H:=Option.bind_eq_some_iff.mp H
  obtain ⟨t214,A120,H⟩:=H
  have A12:=aM A120
  clear A120
  obtain rfl:=Option.some.inj H
  go_enter Try.func43,Try.ntmps43
  go_wp2_with (first | ((with_reducible refine gate_dst (N:=1) rfl ?_);refine box_event ?hg (N:=1) ?hd (cs:=#[.int .i64 a0_0,.int .i64 a0_1,.int .i64 a0_2,.int .i64 a0_3,.slice A0_4 l0_4.length c0_4,.slice A0_5 l0_5.length c0_5,.string a0_6,.int .i64 a0_7]) (t:=39) ?hr ?_;(case hd=>rfl);(case hg=>rfl);(case hr=>first | (go_simp;done) | (go_simp;rfl));intro gb210 hg w13 hbox hb;have n0_:=aM (below_step (zB HB.out) hb);have n1_:=aM (hbox);have n2_:=aM ((by rw [hg];exact (below_size (zB HB.out)):w.heap.size≤gb210));have n3_:=aM ((by rw [hg];exact (below_size (zB HB.out)):w.heap.size≤gb210));clear HB;have HB:=n0_;have BK210:=n1_;have GE210:=n3_;clear n0_ n1_ n2_ n3_;clear hb hbox hg;have hcz14_0:w13.cell? ⟨gb210,0,none⟩=some (.int .i64 a0_0):=(blk_cell BK210.out 0).trans rfl) | ((with_reducible refine gate_callee (f:=63) rfl ?_);refine goesL_ (some 5) rfl rfl Try.func63 (by kernel_rfl) rfl #[.int .i64 a0_0] rfl zA ?_;(with_reducible refine (r05_typed.calls a0_0 false _ A2.out).mono ?_);rintro e w' ⟨rfl,⟨nd,rfl⟩⟩;refine ⟨_,rfl,?_⟩) | ((with_reducible refine gate_callee (f:=70) rfl ?_);refine goesL_ (some 16) rfl rfl Try.func70 (by kernel_rfl) rfl #[.int .i64 a0_0] rfl zA ?_;(with_reducible refine (r05_word.calls a0_0 t214 _ A12.out).mono ?_);rintro e w15 ⟨rfl,hb⟩;refine ⟨_,rfl,?_⟩;have n0_:=aM (blk_below (g:=gb210) (o:=.cells #[.int .i64 a0_0,.int .i64 a0_1,.int .i64 a0_2,.int .i64 a0_3,.slice A0_4 l0_4.length c0_4,.slice A0_5 l0_5.length c0_5,.string a0_6,.int .i64 a0_7] 39 (0,0)) (zK BK210.out) hb);have n1_:=aM (below_step (zC HB.out GE210.out) hb);clear BK210;clear HB;have BK210:=n0_;have HB:=n1_;clear n0_ n1_;(try clear hb);(try clear hb2);(try clear hk);(try clear hi)))
  go_ret
  exact ⟨zF,zC HB.out GE210.out⟩
def r07_args.l0:Nat→List Int→ByteArray→Int→Option (ByteArray)
 | 0,_,_,_=>none
 | k+1,x0,x5,x6=>if x6<(x0.length:Int) then (if x5.size+2≤9223372036854775807 then (if 0≤x6 then ((r07_small.f k (rd x0 x6)).bind fun t216=>(if (x5++(⟨#[32,37]⟩:ByteArray)).size+t216.size≤9223372036854775807 then (r07_args.l0 k x0 ((x5++(⟨#[32,37]⟩:ByteArray))++t216) (wrap64 (x6+1))) else (none))) else (none)) else (none)) else (some x5)
def r07_args.f (k:Nat) (l0:List Int) (a1:Int):Option (ByteArray):=r07_args.l0 k l0 (⟨#[]⟩:ByteArray) a1
theorem r07_args.calls (k:Nat) (A0:Option Addr) (c0:Nat) (l0:List Int) (a1:Int) (r:ByteArray) (w:World) (hr0:Kd.C (Kd.int .i64) w A0 l0.length l0) (hc0:l0.length≤c0) (h:r07_args.f k l0 a1=some r):
  Calls Try.prog 45 #[.slice A0 l0.length c0,.int .i64 a1] w fun e w'=>e=.returned (.string r)∧Below w.heap.size w w':=by
 have HR0:=aM hr0
 clear hr0 hc0
 have HB:=aM (Below.refl w.heap.size w)
 have H:(r07_args.l0 k l0 (⟨#[]⟩:ByteArray) a1)=some r:=h
 clear h
 have H':=aM H
 clear H
 go_enter Try.func45,Try.ntmps45
 go_wp2
 go_loopg [5,6] k (fun kq v5 v6 w'=>∃ (x5_1:ByteArray) (x6_1:Int),v5=.string x5_1∧v6=.int .i64 x6_1∧Aside0 (r07_args.l0 kq l0 x5_1 x6_1=some r)∧Aside0 (kq≤k)∧Aside0 (Below w.heap.size w w'))
 case atStart=>exact ⟨((⟨#[]⟩:ByteArray)),(a1),(by first | rfl | (simp;done) | (simp [*];done)),(by first | rfl | (simp;done) | (simp [*];done)),H',⟨Nat.le_refl _⟩,⟨zB HB.out⟩⟩
 case round=>
  clear H'
  obtain ⟨x5_1,x6_1,rfl,rfl,HA,HK1,HB⟩:=hrel
  cases gk with
  | zero=>exact absurd HA.out (by simp [r07_args.l0])
  | succ k1=>
   have H:=HA.out
   clear HA
   simp only [r07_args.l0] at H
   by_cases c3:x6_1<(l0.length:Int)
   ·rw [if_pos c3] at H
    have c3b0:decide (x6_1<(l0.length:Int))=true:=decide_eq_true c3
    clear c3
    by_cases c4:x5_1.size+2≤9223372036854775807
    ·rw [if_pos c4] at H
     try have c4b2:(9223372036854775807<x5_1.size+2)=False:=eq_false (Nat.not_lt.2 c4)
     by_cases c5:0≤x6_1
     ·rw [if_pos c5] at H
      have c5b0:decide (0≤x6_1)=true:=decide_eq_true c5
      clear c5
      replace H:=Option.bind_eq_some_iff.mp H
      obtain ⟨t216,A60,H⟩:=H
      have A6:=aM A60
      clear A60
      by_cases c7:(x5_1++(⟨#[32,37]⟩:ByteArray)).size+t216.size≤9223372036854775807
      ·rw [if_pos c7] at H
       try have c7b2:(9223372036854775807<(x5_1++(⟨#[32,37]⟩:ByteArray)).size+t216.size)=False:=eq_false (Nat.not_lt.2 c7)
       try (have c7b3:=c7b2;simp only [ByteArray.size_append,show ((⟨#[32,37]⟩:ByteArray)).size=2 from rfl] at c7b3)
       have H':=aM H
       clear H
       have p215:0≤(x6_1:Int):=of_decide_eq_true zS
       have q215:x6_1<(l0.length:Int):=of_decide_eq_true zS
       obtain ⟨ad215,e215,hx215_0⟩:=Kd.at_int HR0.out x6_1 p215 q215
       cases e215
       replace hx215_0:=(HB.out.cell (World.block_lt_of_cell? w _ hx215_0)).trans hx215_0
       replace p215:=eq_true p215
       replace q215:=eq_true q215
       go_wp2_with (first | ((with_reducible refine gate_callee (f:=36) rfl ?_);refine goesL_ (some 20) rfl rfl Try.func36 (by kernel_rfl) rfl #[.int .i64 (rd l0 x6_1)] rfl zA ?_;(with_reducible refine (r07_small.calls k1 (rd l0 x6_1) t216 _ A6.out).mono ?_);rintro e w8 ⟨rfl,hb⟩;refine ⟨_,rfl,?_⟩;have n0_:=aM (below_step (zB HB.out) hb);clear HB;have HB:=n0_;clear n0_;(try clear hb);(try clear hb2);(try clear hk);(try clear hi)))
       go_roundg k1
       case measure=>have:=HK1.out;omega
       case rel=>exact ⟨((x5_1++(⟨#[32,37]⟩:ByteArray))++t216),(wrap64 (x6_1+1)),(by first | rfl | (simp;done) | (simp [*];done)),(by first | rfl | (simp;done) | (simp [*];done)),H',⟨by have:=HK1.out;omega⟩,⟨zB HB.out⟩⟩
      ·rw [if_neg c7] at H
       exact absurd H (by simp)
     ·rw [if_neg c5] at H
      exact absurd H (by simp)
    ·rw [if_neg c4] at H
     exact absurd H (by simp)
   ·rw [if_neg c3] at H
    have c3b0:decide (x6_1<(l0.length:Int))=false:=decide_eq_false c3
    clear c3
    obtain rfl:=Option.some.inj H
    go_wp2
    go_ret
    exact ⟨zF,zB HB.out⟩
end Go.Proofs.Ytkjdblbgmomieaa.PSh
end
