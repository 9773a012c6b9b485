import Derived.Test.YtkjdblbgmomieaaMv2
import Derived.Test.YtkjdblbgmomieaaMv3
section
namespace Go.Proofs.Ytkjdblbgmomieaa.PSh
set_option maxHeartbeats 8000000
set_option maxRecDepth 100000
open Go.RowKit Go.Proofs.YtkjdblbgmomieaaW.PrintWords Go.Proofs.YtkjdblbgmomieaaW.PrintLast Go.Proofs.YtkjdblbgmomieaaW.PrintMore Go.Proofs.Ytkjdblbgmomieaa.Zip
attribute [local go_sem] max2_int min2_int max_two min_two max_three min_three max_four min_four   -- for this text's walks alone
set_option linter.unusedVariables false
set_option linter.unusedSimpArgs false
mutual
def r05_Takes.j0:Nat→Int→Bool→Option (List Int)
 | 0,_,_=>none
 | k+1,x0,x8=>if x8=true then (some (([1,1]:List Int))) else (if x0=9 then (r05_Takes.j1 k x0 (x0==9)) else (r05_Takes.j1 k x0 (x0==14)))
def r05_Takes.j1:Nat→Int→Bool→Option (List Int)
 | 0,_,_=>none
 | k+1,x10,x11=>if x11=true then (some (([2,2]:List Int))) else (if x10=11 then (r05_Takes.j2 k x10 (x10==11)) else (if x10=12 then (r05_Takes.j2 k x10 (x10==12)) else (if x10=15 then (r05_Takes.j2 k x10 (x10==15)) else (r05_Takes.j2 k x10 (x10==25)))))
def r05_Takes.j2:Nat→Int→Bool→Option (List Int)
 | 0,_,_=>none
 | k+1,x10,x15=>if x15=true then (some (([2]:List Int))) else (if x10=13 then (some (([2,1]:List Int))) else (if x10=16 then (r05_Takes.j3 k x10 (x10==16)) else (r05_Takes.j3 k x10 (x10==17))))
def r05_Takes.j3:Nat→Int→Bool→Option (List Int)
 | 0,_,_=>none
 | k+1,x10,x24=>if x24=true then (some (([3]:List Int))) else (if x10=18 then (some (([3,1]:List Int))) else (if x10=19 then (some (([3,2]:List Int))) else (if x10=22 then (some (([1]:List Int))) else (if x10=27 then (some (([1]:List Int))) else (some ([]:List Int))))))
end
def r05_Takes.f (k:Nat) (a0:Int):Option (List Int):=if a0≥2 then (r05_Takes.j0 k a0 (decide (a0≤7))) else (r05_Takes.j0 k a0 false)
theorem r05_Takes.mono_l:∀ k,(∀ y0 y1,LeO (r05_Takes.j0 k y0 y1) (r05_Takes.j0 (k+1) y0 y1))∧(∀ y0 y1,LeO (r05_Takes.j1 k y0 y1) (r05_Takes.j1 (k+1) y0 y1))∧(∀ y0 y1,LeO (r05_Takes.j2 k y0 y1) (r05_Takes.j2 (k+1) y0 y1))∧(∀ y0 y1,LeO (r05_Takes.j3 k y0 y1) (r05_Takes.j3 (k+1) y0 y1))
 | 0=>⟨fun _ _ r h=>by simp [r05_Takes.j0] at h,fun _ _ r h=>by simp [r05_Takes.j1] at h,fun _ _ r h=>by simp [r05_Takes.j2] at h,fun _ _ r h=>by simp [r05_Takes.j3] at h⟩
 | k+1=>by
  obtain ⟨ih0,ih1,ih2,ih3⟩:=r05_Takes.mono_l k
  refine ⟨?_,?_,?_,?_⟩
  ·intro y0 y1
   unfold r05_Takes.j0
   repeat' first
   | (with_reducible exact ih0 _ _)
   | (with_reducible exact ih1 _ _)
   | (with_reducible exact ih2 _ _)
   | (with_reducible exact ih3 _ _)
   | (with_reducible exact LeO.refl _)
   | (with_reducible exact LeO.none _)
   | (with_reducible refine LeO.ite ?_ ?_)
   | (with_reducible refine LeO.bind ?_ (fun _=>?_))
   | exact ih0 _ _
   | exact ih1 _ _
   | exact ih2 _ _
   | exact ih3 _ _
   | exact LeO.none _
   | refine LeO.ite ?_ ?_
   | refine LeO.bind ?_ (fun _=>?_)
  ·intro y0 y1
   unfold r05_Takes.j1
   repeat' first
   | (with_reducible exact ih0 _ _)
   | (with_reducible exact ih1 _ _)
   | (with_reducible exact ih2 _ _)
   | (with_reducible exact ih3 _ _)
   | (with_reducible exact LeO.refl _)
   | (with_reducible exact LeO.none _)
   | (with_reducible refine LeO.ite ?_ ?_)
   | (with_reducible refine LeO.bind ?_ (fun _=>?_))
   | exact ih0 _ _
   | exact ih1 _ _
   | exact ih2 _ _
   | exact ih3 _ _
   | exact LeO.none _
   | refine LeO.ite ?_ ?_
   | refine LeO.bind ?_ (fun _=>?_)
  ·intro y0 y1
   unfold r05_Takes.j2
   repeat' first
   | (with_reducible exact ih0 _ _)
   | (with_reducible exact ih1 _ _)
   | (with_reducible exact ih2 _ _)
   | (with_reducible exact ih3 _ _)
   | (with_reducible exact LeO.refl _)
   | (with_reducible exact LeO.none _)
   | (with_reducible refine LeO.ite ?_ ?_)
   | (with_reducible refine LeO.bind ?_ (fun _=>?_))
   | exact ih0 _ _
   | exact ih1 _ _
   | exact ih2 _ _
   | exact ih3 _ _
   | exact LeO.none _
   | refine LeO.ite ?_ ?_
   | refine LeO.bind ?_ (fun _=>?_)
  ·intro y0 y1
   unfold r05_Takes.j3
   repeat' first
   | (with_reducible exact ih0 _ _)
   | (with_reducible exact ih1 _ _)
   | (with_reducible exact ih2 _ _)
   | (with_reducible exact ih3 _ _)
   | (with_reducible exact LeO.refl _)
   | (with_reducible exact LeO.none _)
   | (with_reducible refine LeO.ite ?_ ?_)
   | (with_reducible refine LeO.bind ?_ (fun _=>?_))
   | exact ih0 _ _
   | exact ih1 _ _
   | exact ih2 _ _
   | exact ih3 _ _
   | exact LeO.none _
   | refine LeO.ite ?_ ?_
   | refine LeO.bind ?_ (fun _=>?_)
theorem r05_Takes.mono:∀ a0 k,LeO (r05_Takes.f k a0) (r05_Takes.f (k+1) a0):=by
 intro a0 k
 obtain ⟨ih0,ih1,ih2,ih3⟩:=r05_Takes.mono_l k
 unfold r05_Takes.f
 repeat' first
   | (with_reducible exact ih0 _ _)
   | (with_reducible exact ih1 _ _)
   | (with_reducible exact ih2 _ _)
   | (with_reducible exact ih3 _ _)
   | (with_reducible exact LeO.refl _)
   | (with_reducible exact LeO.none _)
   | (with_reducible refine LeO.ite ?_ ?_)
   | (with_reducible refine LeO.bind ?_ (fun _=>?_))
   | exact ih0 _ _
   | exact ih1 _ _
   | exact ih2 _ _
   | exact ih3 _ _
   | exact LeO.none _
   | refine LeO.ite ?_ ?_
   | refine LeO.bind ?_ (fun _=>?_)
theorem r05_Takes.calls (k:Nat) (a0:Int) (r:List Int) (w:World) (h:r05_Takes.f k a0=some r):
  Calls Try.prog 72 #[.int .i64 a0] w fun e w'=>∃ v0_:Value,e=.returned (v0_)∧Kd.R (Kd.int .i64) 3 w' w.heap.size (fun _=>True) v0_ r∧Below w.heap.size w w':=by
 have HB:=aM (Below.refl w.heap.size w)
 have H:(if a0≥2 then (r05_Takes.j0 k a0 (decide (a0≤7))) else (r05_Takes.j0 k a0 false))=some r:=h
 clear h
 have HC2:=aM H
 clear H
 go_enter Try.func72,Try.ntmps72
 go_upto_region 1 with (fail)
 go_cut [8] (fun v8 wc=>∃ (kq:Nat) (x8_1:Bool),v8=.bool x8_1∧Aside0 (r05_Takes.j0 kq a0 x8_1=some r)∧Aside0 (kq≤k)∧Aside0 (Below w.heap.size w wc))
 case first=>
  have H:=HC2.out
  clear HC2
  by_cases c3:a0≥2
  ·rw [if_pos c3] at H
   have c3b0:decide (2≤a0)=true:=decide_eq_true c3
   clear c3
   (first | rw [c3b0] | (simp only [i64_w,i32_w];rw [c3b0]) | skip)
   have H':=aM H
   clear H
   go_wp2
   go_meet
   case rel=>exact ⟨_,(decide (a0≤7)),(by first | rfl | (simp;done) | (simp [*];done)),H',⟨by first | omega | exact Nat.le_refl _⟩,⟨zB HB.out⟩⟩
  ·rw [if_neg c3] at H
   have c3b0:decide (2≤a0)=false:=decide_eq_false c3
   clear c3
   (first | rw [c3b0] | (simp only [i64_w,i32_w];rw [c3b0]) | skip)
   have H':=aM H
   clear H
   go_wp2
   go_meet
   case rel=>exact ⟨_,(false),(by first | rfl | (simp;done) | (simp [*];done)),H',⟨by first | omega | exact Nat.le_refl _⟩,⟨zB HB.out⟩⟩
 case rest=>
  clear HC2
  obtain ⟨kq,x8_1,rfl,HA,HJ1,HB⟩:=hcut
  cases kq with
  | zero=>exact absurd HA.out (by simp [r05_Takes.j0])
  | succ kj1=>
   have H:=HA.out
   clear HA
   simp only [r05_Takes.j0] at H
   by_cases c4:x8_1=true
   ·subst c4
    have H1:(some (([1,1]:List Int)))=some r:=by rw [if_pos rfl] at H;exact H
    clear H
    have H:=H1
    clear H1
    obtain ⟨y112,hy112⟩:∃ y_:List Int,y_=(([1,1]:List Int)):=⟨_,rfl⟩
    replace H:(some y112)=some r:=by first | (rw [hy112];with_reducible exact H) | (have H2_:=(Option.bind_some _ _).symm.trans H;rw [hy112];with_reducible exact H2_) | (have H2_:=(Option.bind_some _ _).symm.trans H;with_reducible exact H2_) | with_reducible exact H | (rw [hy112];exact H) | exact H
    have Ny112:=aM hy112
    clear hy112
    obtain rfl:=Option.some.inj H
    go_wp2_with (first | ((with_reducible refine gate_dst (N:=9) rfl ?_);refine Kd.R_lit (Kd.int .i64) _ 3 ?hg (N:=9) ?hd (xs:=([1,1]:List Int)) (inner:=[.int .i64 1,.int .i64 1]) (ok:=fun _=>True) (okp:=fun _=>True) ?hr ?hp (fun _ hk=>hk) trivial (Below.refl _ _) (Nat.le_refl _) (by simp) ?_;(case hd=>rfl);(case hg=>rfl);(case hr=>first | (go_simp;done) | (go_simp;rfl));(case hp=>exact (Reps.one (show Kd.M (Kd.int .i64) _ _ _ 1 [.int .i64 1] from rfl) (Reps.one (show Kd.M (Kd.int .i64) _ _ _ 1 [.int .i64 1] from rfl) (Reps.none _ _))));intro v113 w5 ho6 hb hg_ hnew_;clear hg_ hnew_;(first | rw [← Ny112.out] at ho6 | (simp only [Int.reduceToNat] at ho6;rw [← Ny112.out] at ho6));have n0_:=aM (Kd.R_lower ho6 (below_size (zB HB.out)));have n1_:=aM (below_step (zB HB.out) hb);clear HB;have HO114:=n0_;have HB:=n1_;clear n0_ n1_;clear hb ho6))
    go_ret
    exact ⟨_,zF,zR HO114.out,zB HB.out⟩
   ·replace c4:=Bool.eq_false_iff.mpr c4
    subst c4
    have H1:(if a0=9 then (r05_Takes.j1 kj1 a0 (a0==9)) else (r05_Takes.j1 kj1 a0 (a0==14)))=some r:=by rw [if_neg (show ¬ (false=true) by decide)] at H;exact H
    clear H
    have H:=H1
    clear H1
    have HC7:=aM H
    clear H
    go_upto_if 11 with (fail)
    go_cut [11] (fun v11 wc=>∃ (kq:Nat) (x11_6:Bool),v11=.bool x11_6∧Aside0 (r05_Takes.j1 kq a0 x11_6=some r)∧Aside0 (kq≤kj1)∧Aside0 (Below w.heap.size w wc))
    case first=>
     have H:=HC7.out
     clear HC7
     by_cases c8:a0=9
     ·rw [if_pos c8] at H
      have c8b0:(a0==9)=true:=beq_iff_eq.mpr c8
      clear c8
      (first | rw [c8b0] | (simp only [i64_w,i32_w];rw [c8b0]) | skip)
      have H':=aM H
      clear H
      go_wp2
      go_meet
      case rel=>exact ⟨_,((a0==9)),(by first | rfl | (simp;done) | (simp [*];done)),H',⟨by have:=HJ1.out;first | omega | exact Nat.le_refl _⟩,⟨zB HB.out⟩⟩
     ·rw [if_neg c8] at H
      have c8b0:(a0==9)=false:=beq_eq_false_iff_ne.mpr c8
      (first | rw [c8b0] | (simp only [i64_w,i32_w];rw [c8b0]) | skip)
      have H':=aM H
      clear H
      go_wp2
      go_meet
      case rel=>exact ⟨_,((a0==14)),(by first | rfl | (simp;done) | (simp [*];done)),H',⟨by have:=HJ1.out;first | omega | exact Nat.le_refl _⟩,⟨zB HB.out⟩⟩
    case rest=>
     clear HC7
     obtain ⟨kq,x11_6,rfl,HA,HJ6,HB⟩:=hcut
     cases kq with
     | zero=>exact absurd HA.out (by simp [r05_Takes.j1])
     | succ kj6=>
      have H:=HA.out
      clear HA
      simp only [r05_Takes.j1] at H
      by_cases c9:x11_6=true
      ·subst c9
       have H1:(some (([2,2]:List Int)))=some r:=by rw [if_pos rfl] at H;exact H
       clear H
       have H:=H1
       clear H1
       obtain ⟨y115,hy115⟩:∃ y_:List Int,y_=(([2,2]:List Int)):=⟨_,rfl⟩
       replace H:(some y115)=some r:=by first | (rw [hy115];with_reducible exact H) | (have H2_:=(Option.bind_some _ _).symm.trans H;rw [hy115];with_reducible exact H2_) | (have H2_:=(Option.bind_some _ _).symm.trans H;with_reducible exact H2_) | with_reducible exact H | (rw [hy115];exact H) | exact H
       have Ny115:=aM hy115
       clear hy115
       obtain rfl:=Option.some.inj H
       go_wp2_with (first | ((with_reducible refine gate_dst (N:=14) rfl ?_);refine Kd.R_lit (Kd.int .i64) _ 3 ?hg (N:=14) ?hd (xs:=([2,2]:List Int)) (inner:=[.int .i64 2,.int .i64 2]) (ok:=fun _=>True) (okp:=fun _=>True) ?hr ?hp (fun _ hk=>hk) trivial (Below.refl _ _) (Nat.le_refl _) (by simp) ?_;(case hd=>rfl);(case hg=>rfl);(case hr=>first | (go_simp;done) | (go_simp;rfl));(case hp=>exact (Reps.one (show Kd.M (Kd.int .i64) _ _ _ 2 [.int .i64 2] from rfl) (Reps.one (show Kd.M (Kd.int .i64) _ _ _ 2 [.int .i64 2] from rfl) (Reps.none _ _))));intro v116 w10 ho11 hb hg_ hnew_;clear hg_ hnew_;(first | rw [← Ny115.out] at ho11 | (simp only [Int.reduceToNat] at ho11;rw [← Ny115.out] at ho11));have n0_:=aM (Kd.R_lower ho11 (below_size (zB HB.out)));have n1_:=aM (below_step (zB HB.out) hb);clear HB;have HO117:=n0_;have HB:=n1_;clear n0_ n1_;clear hb ho11))
       go_ret
       exact ⟨_,zF,zR HO117.out,zB HB.out⟩
      ·replace c9:=Bool.eq_false_iff.mpr c9
       subst c9
       have H1:(if a0=11 then (r05_Takes.j2 kj6 a0 (a0==11)) else (if a0=12 then (r05_Takes.j2 kj6 a0 (a0==12)) else (if a0=15 then (r05_Takes.j2 kj6 a0 (a0==15)) else (r05_Takes.j2 kj6 a0 (a0==25)))))=some r:=by rw [if_neg (show ¬ (false=true) by decide)] at H;exact H
       clear H
       have H:=H1
       clear H1
       have HC12:=aM H
       clear H
       go_upto_if 15 with (fail)
       go_cut [15] (fun v15 wc=>∃ (kq:Nat) (x15_11:Bool),v15=.bool x15_11∧Aside0 (r05_Takes.j2 kq a0 x15_11=some r)∧Aside0 (kq≤kj6)∧Aside0 (Below w.heap.size w wc))
       case first=>
        have H:=HC12.out
        clear HC12
        by_cases c13:a0=11
        ·rw [if_pos c13] at H
         have c13b0:(a0==11)=true:=beq_iff_eq.mpr c13
         clear c13
         (first | rw [c13b0] | (simp only [i64_w,i32_w];rw [c13b0]) | skip)
         have H':=aM H
         clear H
         go_wp2
         go_meet
         case rel=>exact ⟨_,((a0==11)),(by first | rfl | (simp;done) | (simp [*];done)),H',⟨by have:=HJ1.out;have:=HJ6.out;first | omega | exact Nat.le_refl _⟩,⟨zB HB.out⟩⟩
        ·rw [if_neg c13] at H
         have c13b0:(a0==11)=false:=beq_eq_false_iff_ne.mpr c13
         (first | rw [c13b0] | (simp only [i64_w,i32_w];rw [c13b0]) | skip)
         by_cases c14:a0=12
         ·rw [if_pos c14] at H
          have c14b0:(a0==12)=true:=beq_iff_eq.mpr c14
          clear c14
          have H':=aM H
          clear H
          go_wp2
          go_meet
          case rel=>exact ⟨_,((a0==12)),(by first | rfl | (simp;done) | (simp [*];done)),H',⟨by have:=HJ1.out;have:=HJ6.out;first | omega | exact Nat.le_refl _⟩,⟨zB HB.out⟩⟩
         ·rw [if_neg c14] at H
          have c14b0:(a0==12)=false:=beq_eq_false_iff_ne.mpr c14
          by_cases c15:a0=15
          ·rw [if_pos c15] at H
           have c15b0:(a0==15)=true:=beq_iff_eq.mpr c15
           clear c15
           have H':=aM H
           clear H
           go_wp2
           go_meet
           case rel=>exact ⟨_,((a0==15)),(by first | rfl | (simp;done) | (simp [*];done)),H',⟨by have:=HJ1.out;have:=HJ6.out;first | omega | exact Nat.le_refl _⟩,⟨zB HB.out⟩⟩
          ·rw [if_neg c15] at H
           have c15b0:(a0==15)=false:=beq_eq_false_iff_ne.mpr c15
           have H':=aM H
           clear H
           go_wp2
           go_meet
           case rel=>exact ⟨_,((a0==25)),(by first | rfl | (simp;done) | (simp [*];done)),H',⟨by have:=HJ1.out;have:=HJ6.out;first | omega | exact Nat.le_refl _⟩,⟨zB HB.out⟩⟩
       case rest=>
        clear HC12
        obtain ⟨kq,x15_11,rfl,HA,HJ11,HB⟩:=hcut
        cases kq with
        | zero=>exact absurd HA.out (by simp [r05_Takes.j2])
        | succ kj11=>
         have H:=HA.out
         clear HA
         simp only [r05_Takes.j2] at H
         by_cases c16:x15_11=true
         ·subst c16
          have H1:(some (([2]:List Int)))=some r:=by rw [if_pos rfl] at H;exact H
          clear H
          have H:=H1
          clear H1
          obtain ⟨y118,hy118⟩:∃ y_:List Int,y_=(([2]:List Int)):=⟨_,rfl⟩
          replace H:(some y118)=some r:=by first | (rw [hy118];with_reducible exact H) | (have H2_:=(Option.bind_some _ _).symm.trans H;rw [hy118];with_reducible exact H2_) | (have H2_:=(Option.bind_some _ _).symm.trans H;with_reducible exact H2_) | with_reducible exact H | (rw [hy118];exact H) | exact H
          have Ny118:=aM hy118
          clear hy118
          obtain rfl:=Option.some.inj H
          go_wp2_with (first | ((with_reducible refine gate_dst (N:=20) rfl ?_);refine Kd.R_lit (Kd.int .i64) _ 3 ?hg (N:=20) ?hd (xs:=([2]:List Int)) (inner:=[.int .i64 2]) (ok:=fun _=>True) (okp:=fun _=>True) ?hr ?hp (fun _ hk=>hk) trivial (Below.refl _ _) (Nat.le_refl _) (by simp) ?_;(case hd=>rfl);(case hg=>rfl);(case hr=>first | (go_simp;done) | (go_simp;rfl));(case hp=>exact (Reps.one (show Kd.M (Kd.int .i64) _ _ _ 2 [.int .i64 2] from rfl) (Reps.none _ _)));intro v119 w17 ho18 hb hg_ hnew_;clear hg_ hnew_;(first | rw [← Ny118.out] at ho18 | (simp only [Int.reduceToNat] at ho18;rw [← Ny118.out] at ho18));have n0_:=aM (Kd.R_lower ho18 (below_size (zB HB.out)));have n1_:=aM (below_step (zB HB.out) hb);clear HB;have HO120:=n0_;have HB:=n1_;clear n0_ n1_;clear hb ho18))
          go_ret
          exact ⟨_,zF,zR HO120.out,zB HB.out⟩
         ·replace c16:=Bool.eq_false_iff.mpr c16
          subst c16
          have H1:(if a0=13 then (some (([2,1]:List Int))) else (if a0=16 then (r05_Takes.j3 kj11 a0 (a0==16)) else (r05_Takes.j3 kj11 a0 (a0==17))))=some r:=by rw [if_neg (show ¬ (false=true) by decide)] at H;exact H
          clear H
          have H:=H1
          clear H1
          by_cases c19:a0=13
          ·rw [if_pos c19] at H
           have c19b0:(a0==13)=true:=beq_iff_eq.mpr c19
           clear c19
           obtain ⟨y121,hy121⟩:∃ y_:List Int,y_=(([2,1]:List Int)):=⟨_,rfl⟩
           replace H:(some y121)=some r:=by first | (rw [hy121];with_reducible exact H) | (have H2_:=(Option.bind_some _ _).symm.trans H;rw [hy121];with_reducible exact H2_) | (have H2_:=(Option.bind_some _ _).symm.trans H;with_reducible exact H2_) | with_reducible exact H | (rw [hy121];exact H) | exact H
           have Ny121:=aM hy121
           clear hy121
           obtain rfl:=Option.some.inj H
           go_wp2_with (first | ((with_reducible refine gate_dst (N:=23) rfl ?_);refine Kd.R_lit (Kd.int .i64) _ 3 ?hg (N:=23) ?hd (xs:=([2,1]:List Int)) (inner:=[.int .i64 2,.int .i64 1]) (ok:=fun _=>True) (okp:=fun _=>True) ?hr ?hp (fun _ hk=>hk) trivial (Below.refl _ _) (Nat.le_refl _) (by simp) ?_;(case hd=>rfl);(case hg=>rfl);(case hr=>first | (go_simp;done) | (go_simp;rfl));(case hp=>exact (Reps.one (show Kd.M (Kd.int .i64) _ _ _ 2 [.int .i64 2] from rfl) (Reps.one (show Kd.M (Kd.int .i64) _ _ _ 1 [.int .i64 1] from rfl) (Reps.none _ _))));intro v122 w20 ho21 hb hg_ hnew_;clear hg_ hnew_;(first | rw [← Ny121.out] at ho21 | (simp only [Int.reduceToNat] at ho21;rw [← Ny121.out] at ho21));have n0_:=aM (Kd.R_lower ho21 (below_size (zB HB.out)));have n1_:=aM (below_step (zB HB.out) hb);clear HB;have HO123:=n0_;have HB:=n1_;clear n0_ n1_;clear hb ho21))
           go_ret
           exact ⟨_,zF,zR HO123.out,zB HB.out⟩
          ·rw [if_neg c19] at H
           have c19b0:(a0==13)=false:=beq_eq_false_iff_ne.mpr c19
           have HC22:=aM H
           clear H
           go_upto_if 24 with (fail)
           go_cut [24] (fun v24 wc=>∃ (kq:Nat) (x24_21:Bool),v24=.bool x24_21∧Aside0 (r05_Takes.j3 kq a0 x24_21=some r)∧Aside0 (kq≤kj11)∧Aside0 (Below w.heap.size w wc))
           case first=>
            have H:=HC22.out
            clear HC22
            by_cases c23:a0=16
            ·rw [if_pos c23] at H
             have c23b0:(a0==16)=true:=beq_iff_eq.mpr c23
             clear c23
             (first | rw [c23b0] | (simp only [i64_w,i32_w];rw [c23b0]) | skip)
             have H':=aM H
             clear H
             go_wp2
             go_meet
             case rel=>exact ⟨_,((a0==16)),(by first | rfl | (simp;done) | (simp [*];done)),H',⟨by have:=HJ1.out;have:=HJ6.out;have:=HJ11.out;first | omega | exact Nat.le_refl _⟩,⟨zB HB.out⟩⟩
            ·rw [if_neg c23] at H
             have c23b0:(a0==16)=false:=beq_eq_false_iff_ne.mpr c23
             (first | rw [c23b0] | (simp only [i64_w,i32_w];rw [c23b0]) | skip)
             have H':=aM H
             clear H
             go_wp2
             go_meet
             case rel=>exact ⟨_,((a0==17)),(by first | rfl | (simp;done) | (simp [*];done)),H',⟨by have:=HJ1.out;have:=HJ6.out;have:=HJ11.out;first | omega | exact Nat.le_refl _⟩,⟨zB HB.out⟩⟩
           case rest=>
            clear HC22 c19 c19b0
            obtain ⟨kq,x24_21,rfl,HA,HJ21,HB⟩:=hcut
            cases kq with
            | zero=>exact absurd HA.out (by simp [r05_Takes.j3])
            | succ kj21=>
             have H:=HA.out
             clear HA
             simp only [r05_Takes.j3] at H
             by_cases c24:x24_21=true
             ·subst c24
              have H1:(some (([3]:List Int)))=some r:=by rw [if_pos rfl] at H;exact H
              clear H
              have H:=H1
              clear H1
              obtain ⟨y124,hy124⟩:∃ y_:List Int,y_=(([3]:List Int)):=⟨_,rfl⟩
              replace H:(some y124)=some r:=by first | (rw [hy124];with_reducible exact H) | (have H2_:=(Option.bind_some _ _).symm.trans H;rw [hy124];with_reducible exact H2_) | (have H2_:=(Option.bind_some _ _).symm.trans H;with_reducible exact H2_) | with_reducible exact H | (rw [hy124];exact H) | exact H
              have Ny124:=aM hy124
              clear hy124
              obtain rfl:=Option.some.inj H
              go_wp2_with (first | ((with_reducible refine gate_dst (N:=27) rfl ?_);refine Kd.R_lit (Kd.int .i64) _ 3 ?hg (N:=27) ?hd (xs:=([3]:List Int)) (inner:=[.int .i64 3]) (ok:=fun _=>True) (okp:=fun _=>True) ?hr ?hp (fun _ hk=>hk) trivial (Below.refl _ _) (Nat.le_refl _) (by simp) ?_;(case hd=>rfl);(case hg=>rfl);(case hr=>first | (go_simp;done) | (go_simp;rfl));(case hp=>exact (Reps.one (show Kd.M (Kd.int .i64) _ _ _ 3 [.int .i64 3] from rfl) (Reps.none _ _)));intro v125 w25 ho26 hb hg_ hnew_;clear hg_ hnew_;(first | rw [← Ny124.out] at ho26 | (simp only [Int.reduceToNat] at ho26;rw [← Ny124.out] at ho26));have n0_:=aM (Kd.R_lower ho26 (below_size (zB HB.out)));have n1_:=aM (below_step (zB HB.out) hb);clear HB;have HO126:=n0_;have HB:=n1_;clear n0_ n1_;clear hb ho26))
              go_ret
              exact ⟨_,zF,zR HO126.out,zB HB.out⟩
             ·replace c24:=Bool.eq_false_iff.mpr c24
              subst c24
              have H1:(if a0=18 then (some (([3,1]:List Int))) else (if a0=19 then (some (([3,2]:List Int))) else (if a0=22 then (some (([1]:List Int))) else (if a0=27 then (some (([1]:List Int))) else (some ([]:List Int))))))=some r:=by rw [if_neg (show ¬ (false=true) by decide)] at H;exact H
              clear H
              have H:=H1
              clear H1
              by_cases c27:a0=18
              ·rw [if_pos c27] at H
               have c27b0:(a0==18)=true:=beq_iff_eq.mpr c27
               clear c27
               obtain ⟨y127,hy127⟩:∃ y_:List Int,y_=(([3,1]:List Int)):=⟨_,rfl⟩
               replace H:(some y127)=some r:=by first | (rw [hy127];with_reducible exact H) | (have H2_:=(Option.bind_some _ _).symm.trans H;rw [hy127];with_reducible exact H2_) | (have H2_:=(Option.bind_some _ _).symm.trans H;with_reducible exact H2_) | with_reducible exact H | (rw [hy127];exact H) | exact H
               have Ny127:=aM hy127
               clear hy127
               obtain rfl:=Option.some.inj H
               go_wp2_with (first | ((with_reducible refine gate_dst (N:=30) rfl ?_);refine Kd.R_lit (Kd.int .i64) _ 3 ?hg (N:=30) ?hd (xs:=([3,1]:List Int)) (inner:=[.int .i64 3,.int .i64 1]) (ok:=fun _=>True) (okp:=fun _=>True) ?hr ?hp (fun _ hk=>hk) trivial (Below.refl _ _) (Nat.le_refl _) (by simp) ?_;(case hd=>rfl);(case hg=>rfl);(case hr=>first | (go_simp;done) | (go_simp;rfl));(case hp=>exact (Reps.one (show Kd.M (Kd.int .i64) _ _ _ 3 [.int .i64 3] from rfl) (Reps.one (show Kd.M (Kd.int .i64) _ _ _ 1 [.int .i64 1] from rfl) (Reps.none _ _))));intro v128 w28 ho29 hb hg_ hnew_;clear hg_ hnew_;(first | rw [← Ny127.out] at ho29 | (simp only [Int.reduceToNat] at ho29;rw [← Ny127.out] at ho29));have n0_:=aM (Kd.R_lower ho29 (below_size (zB HB.out)));have n1_:=aM (below_step (zB HB.out) hb);clear HB;have HO129:=n0_;have HB:=n1_;clear n0_ n1_;clear hb ho29))
               go_ret
               exact ⟨_,zF,zR HO129.out,zB HB.out⟩
              ·rw [if_neg c27] at H
               have c27b0:(a0==18)=false:=beq_eq_false_iff_ne.mpr c27
               by_cases c30:a0=19
               ·rw [if_pos c30] at H
                have c30b0:(a0==19)=true:=beq_iff_eq.mpr c30
                clear c30
                obtain ⟨y130,hy130⟩:∃ y_:List Int,y_=(([3,2]:List Int)):=⟨_,rfl⟩
                replace H:(some y130)=some r:=by first | (rw [hy130];with_reducible exact H) | (have H2_:=(Option.bind_some _ _).symm.trans H;rw [hy130];with_reducible exact H2_) | (have H2_:=(Option.bind_some _ _).symm.trans H;with_reducible exact H2_) | with_reducible exact H | (rw [hy130];exact H) | exact H
                have Ny130:=aM hy130
                clear hy130
                obtain rfl:=Option.some.inj H
                go_wp2_with (first | ((with_reducible refine gate_dst (N:=33) rfl ?_);refine Kd.R_lit (Kd.int .i64) _ 3 ?hg (N:=33) ?hd (xs:=([3,2]:List Int)) (inner:=[.int .i64 3,.int .i64 2]) (ok:=fun _=>True) (okp:=fun _=>True) ?hr ?hp (fun _ hk=>hk) trivial (Below.refl _ _) (Nat.le_refl _) (by simp) ?_;(case hd=>rfl);(case hg=>rfl);(case hr=>first | (go_simp;done) | (go_simp;rfl));(case hp=>exact (Reps.one (show Kd.M (Kd.int .i64) _ _ _ 3 [.int .i64 3] from rfl) (Reps.one (show Kd.M (Kd.int .i64) _ _ _ 2 [.int .i64 2] from rfl) (Reps.none _ _))));intro v131 w31 ho32 hb hg_ hnew_;clear hg_ hnew_;(first | rw [← Ny130.out] at ho32 | (simp only [Int.reduceToNat] at ho32;rw [← Ny130.out] at ho32));have n0_:=aM (Kd.R_lower ho32 (below_size (zB HB.out)));have n1_:=aM (below_step (zB HB.out) hb);clear HB;have HO132:=n0_;have HB:=n1_;clear n0_ n1_;clear hb ho32))
                go_ret
                exact ⟨_,zF,zR HO132.out,zB HB.out⟩
               ·rw [if_neg c30] at H
                have c30b0:(a0==19)=false:=beq_eq_false_iff_ne.mpr c30
                by_cases c33:a0=22
                ·rw [if_pos c33] at H
                 have c33b0:(a0==22)=true:=beq_iff_eq.mpr c33
                 clear c33
                 obtain ⟨y133,hy133⟩:∃ y_:List Int,y_=(([1]:List Int)):=⟨_,rfl⟩
                 replace H:(some y133)=some r:=by first | (rw [hy133];with_reducible exact H) | (have H2_:=(Option.bind_some _ _).symm.trans H;rw [hy133];with_reducible exact H2_) | (have H2_:=(Option.bind_some _ _).symm.trans H;with_reducible exact H2_) | with_reducible exact H | (rw [hy133];exact H) | exact H
                 have Ny133:=aM hy133
                 clear hy133
                 obtain rfl:=Option.some.inj H
                 go_wp2_with (first | ((with_reducible refine gate_dst (N:=37) rfl ?_);refine Kd.R_lit (Kd.int .i64) _ 3 ?hg (N:=37) ?hd (xs:=([1]:List Int)) (inner:=[.int .i64 1]) (ok:=fun _=>True) (okp:=fun _=>True) ?hr ?hp (fun _ hk=>hk) trivial (Below.refl _ _) (Nat.le_refl _) (by simp) ?_;(case hd=>rfl);(case hg=>rfl);(case hr=>first | (go_simp;done) | (go_simp;rfl));(case hp=>exact (Reps.one (show Kd.M (Kd.int .i64) _ _ _ 1 [.int .i64 1] from rfl) (Reps.none _ _)));intro v134 w34 ho35 hb hg_ hnew_;clear hg_ hnew_;(first | rw [← Ny133.out] at ho35 | (simp only [Int.reduceToNat] at ho35;rw [← Ny133.out] at ho35));have n0_:=aM (Kd.R_lower ho35 (below_size (zB HB.out)));have n1_:=aM (below_step (zB HB.out) hb);clear HB;have HO135:=n0_;have HB:=n1_;clear n0_ n1_;clear hb ho35))
                 go_ret
                 exact ⟨_,zF,zR HO135.out,zB HB.out⟩
                ·rw [if_neg c33] at H
                 have c33b0:(a0==22)=false:=beq_eq_false_iff_ne.mpr c33
                 by_cases c36:a0=27
                 ·rw [if_pos c36] at H
                  have c36b0:(a0==27)=true:=beq_iff_eq.mpr c36
                  clear c36
                  obtain ⟨y136,hy136⟩:∃ y_:List Int,y_=(([1]:List Int)):=⟨_,rfl⟩
                  replace H:(some y136)=some r:=by first | (rw [hy136];with_reducible exact H) | (have H2_:=(Option.bind_some _ _).symm.trans H;rw [hy136];with_reducible exact H2_) | (have H2_:=(Option.bind_some _ _).symm.trans H;with_reducible exact H2_) | with_reducible exact H | (rw [hy136];exact H) | exact H
                  have Ny136:=aM hy136
                  clear hy136
                  obtain rfl:=Option.some.inj H
                  go_wp2_with (first | ((with_reducible refine gate_dst (N:=37) rfl ?_);refine Kd.R_lit (Kd.int .i64) _ 3 ?hg (N:=37) ?hd (xs:=([1]:List Int)) (inner:=[.int .i64 1]) (ok:=fun _=>True) (okp:=fun _=>True) ?hr ?hp (fun _ hk=>hk) trivial (Below.refl _ _) (Nat.le_refl _) (by simp) ?_;(case hd=>rfl);(case hg=>rfl);(case hr=>first | (go_simp;done) | (go_simp;rfl));(case hp=>exact (Reps.one (show Kd.M (Kd.int .i64) _ _ _ 1 [.int .i64 1] from rfl) (Reps.none _ _)));intro v137 w37 ho38 hb hg_ hnew_;clear hg_ hnew_;(first | rw [← Ny136.out] at ho38 | (simp only [Int.reduceToNat] at ho38;rw [← Ny136.out] at ho38));have n0_:=aM (Kd.R_lower ho38 (below_size (zB HB.out)));have n1_:=aM (below_step (zB HB.out) hb);clear HB;have HO138:=n0_;have HB:=n1_;clear n0_ n1_;clear hb ho38))
                  go_ret
                  exact ⟨_,zF,zR HO138.out,zB HB.out⟩
                 ·rw [if_neg c36] at H
                  have c36b0:(a0==27)=false:=beq_eq_false_iff_ne.mpr c36
                  obtain rfl:=Option.some.inj H
                  go_wp2
                  go_ret
                  exact ⟨_,zF,by first | exact Kd.R_nil _ _ _ _ _ | exact Kd.N_nil _ _ _ _ _ | exact Kd.V_nil _ _ _ _ _ | exact Kd.Q_nil _ _ _ _ _ | exact Kd.S_nil _ _ _ _ _,zB HB.out⟩
def r07_counts.f (k:Nat) (a0_0:Int) (a0_1:Int) (a0_2:Int) (a0_3:Int) (l0_4:List Int) (l0_5:List Int) (a0_6:ByteArray) (a0_7:Int):Option (Bool):=if a0_0=20 then (if (l0_5.length:Int)≥1 then (some ((l0_4.length:Int)==(l0_5.length:Int))) else (some false)) else (if a0_0=21 then (some ((l0_5.length:Int)==0)) else (if a0_0=28 then (if (l0_4.length:Int)≤1 then (some ((l0_5.length:Int)==0)) else (some false)) else (if a0_0=24 then (if (l0_4.length:Int)=1 then (some ((l0_5.length:Int)==0)) else (some false)) else (if a0_0=26 then (if (l0_4.length:Int)=0 then (some ((l0_5.length:Int)==1)) else (some false)) else (if a0_0=27 then (if (l0_4.length:Int)=1 then (some ((l0_5.length:Int)==2)) else (some false)) else ((r05_Takes.f k a0_0).bind fun t140=>(if (l0_4.length:Int)=(t140.length:Int) then (some ((l0_5.length:Int)==0)) else (some false))))))))
theorem r07_counts.mono:∀ a0 a1 a2 a3 a4 a5 a6 a7 k,LeO (r07_counts.f k a0 a1 a2 a3 a4 a5 a6 a7) (r07_counts.f (k+1) a0 a1 a2 a3 a4 a5 a6 a7):=by
 intro a0 a1 a2 a3 a4 a5 a6 a7 k
 unfold r07_counts.f
 repeat' first
   | (with_reducible exact r05_Takes.mono _ _)
   | (with_reducible exact LeO.refl _)
   | (with_reducible exact LeO.none _)
   | (with_reducible refine LeO.ite ?_ ?_)
   | (with_reducible refine LeO.bind ?_ (fun _=>?_))
   | exact r05_Takes.mono _ _
   | exact LeO.none _
   | refine LeO.ite ?_ ?_
   | refine LeO.bind ?_ (fun _=>?_)
theorem r07_counts.calls (k:Nat) (a0_0:Int) (a0_1:Int) (a0_2:Int) (a0_3:Int) (A0_4:Option Addr) (c0_4:Nat) (l0_4:List Int) (A0_5:Option Addr) (c0_5:Nat) (l0_5:List Int) (a0_6:ByteArray) (a0_7:Int) (r:Bool) (w:World) (hr0_4:Kd.C (Kd.int .i64) w A0_4 l0_4.length l0_4) (hc0_4:l0_4.length≤c0_4) (hr0_5:Kd.C (Kd.int .i64) w A0_5 l0_5.length l0_5) (hc0_5:l0_5.length≤c0_5) (h:r07_counts.f k a0_0 a0_1 a0_2 a0_3 l0_4 l0_5 a0_6 a0_7=some r):
  Calls Try.prog 51 #[.agg #[.int .i64 a0_0,.int .i64 a0_1,.int .i64 a0_2,.int .i64 a0_3,.slice A0_4 l0_4.length c0_4,.slice A0_5 l0_5.length c0_5,.string a0_6,.int .i64 a0_7]] w fun e w'=>e=.returned (.bool r)∧Below w.heap.size w w':=by
 clear hr0_4 hc0_4 hr0_5 hc0_5
 have HB:=aM (Below.refl w.heap.size w)
 have H:(if a0_0=20 then (if (l0_5.length:Int)≥1 then (some ((l0_4.length:Int)==(l0_5.length:Int))) else (some false)) else (if a0_0=21 then (some ((l0_5.length:Int)==0)) else (if a0_0=28 then (if (l0_4.length:Int)≤1 then (some ((l0_5.length:Int)==0)) else (some false)) else (if a0_0=24 then (if (l0_4.length:Int)=1 then (some ((l0_5.length:Int)==0)) else (some false)) else (if a0_0=26 then (if (l0_4.length:Int)=0 then (some ((l0_5.length:Int)==1)) else (some false)) else (if a0_0=27 then (if (l0_4.length:Int)=1 then (some ((l0_5.length:Int)==2)) else (some false)) else ((r05_Takes.f k a0_0).bind fun t140=>(if (l0_4.length:Int)=(t140.length:Int) then (some ((l0_5.length:Int)==0)) else (some false)))))))))=some r:=h
 clear h
 by_cases c2:a0_0=20
 ·rw [if_pos c2] at H
  have c2b0:(a0_0==20)=true:=beq_iff_eq.mpr c2
  clear c2
  by_cases c3:(l0_5.length:Int)≥1
  ·rw [if_pos c3] at H
   have c3b0:decide (1≤(l0_5.length:Int))=true:=decide_eq_true c3
   clear c3
   obtain rfl:=Option.some.inj H
   go_enter Try.func51,Try.ntmps51
   go_wp2_with (first | ((with_reducible refine gate_dst (N:=1) rfl ?_);refine box_event ?hg (N:=1) ?hd (cs:=#[.int .i64 a0_0,.int .i64 a0_1,.int .i64 a0_2,.int .i64 a0_3,.slice A0_4 l0_4.length c0_4,.slice A0_5 l0_5.length c0_5,.string a0_6,.int .i64 a0_7]) (t:=39) ?hr ?_;(case hd=>rfl);(case hg=>rfl);(case hr=>first | (go_simp;done) | (go_simp;rfl));intro gb139 hg w4 hbox hb;have n0_:=aM (below_step (zB HB.out) hb);have n1_:=aM (hbox);have n2_:=aM ((by rw [hg];exact (below_size (zB HB.out)):w.heap.size≤gb139));have n3_:=aM ((by rw [hg];exact (below_size (zB HB.out)):w.heap.size≤gb139));clear HB;have HB:=n0_;have BK139:=n1_;have GE139:=n3_;clear n0_ n1_ n2_ n3_;clear hb hbox hg;have hcz5_0:w4.cell? ⟨gb139,0,none⟩=some (.int .i64 a0_0):=(blk_cell BK139.out 0).trans rfl;have hcz5_4:w4.cell? ⟨gb139,4,none⟩=some (.slice A0_4 l0_4.length c0_4):=(blk_cell BK139.out 4).trans rfl;have hcz5_5:w4.cell? ⟨gb139,5,none⟩=some (.slice A0_5 l0_5.length c0_5):=(blk_cell BK139.out 5).trans rfl))
   go_ret
   exact ⟨zF,zC HB.out GE139.out⟩
  ·rw [if_neg c3] at H
   have c3b0:decide (1≤(l0_5.length:Int))=false:=decide_eq_false c3
   clear c3
   obtain rfl:=Option.some.inj H
   go_enter Try.func51,Try.ntmps51
   go_wp2_with (first | ((with_reducible refine gate_dst (N:=1) rfl ?_);refine box_event ?hg (N:=1) ?hd (cs:=#[.int .i64 a0_0,.int .i64 a0_1,.int .i64 a0_2,.int .i64 a0_3,.slice A0_4 l0_4.length c0_4,.slice A0_5 l0_5.length c0_5,.string a0_6,.int .i64 a0_7]) (t:=39) ?hr ?_;(case hd=>rfl);(case hg=>rfl);(case hr=>first | (go_simp;done) | (go_simp;rfl));intro gb139 hg w6 hbox hb;have n0_:=aM (below_step (zB HB.out) hb);have n1_:=aM (hbox);have n2_:=aM ((by rw [hg];exact (below_size (zB HB.out)):w.heap.size≤gb139));have n3_:=aM ((by rw [hg];exact (below_size (zB HB.out)):w.heap.size≤gb139));clear HB;have HB:=n0_;have BK139:=n1_;have GE139:=n3_;clear n0_ n1_ n2_ n3_;clear hb hbox hg;have hcz7_0:w6.cell? ⟨gb139,0,none⟩=some (.int .i64 a0_0):=(blk_cell BK139.out 0).trans rfl;have hcz7_4:w6.cell? ⟨gb139,4,none⟩=some (.slice A0_4 l0_4.length c0_4):=(blk_cell BK139.out 4).trans rfl;have hcz7_5:w6.cell? ⟨gb139,5,none⟩=some (.slice A0_5 l0_5.length c0_5):=(blk_cell BK139.out 5).trans rfl))
   go_ret
   exact ⟨zF,zC HB.out GE139.out⟩
 ·rw [if_neg c2] at H
  have c2b0:(a0_0==20)=false:=beq_eq_false_iff_ne.mpr c2
  by_cases c8:a0_0=21
  ·rw [if_pos c8] at H
   have c8b0:(a0_0==21)=true:=beq_iff_eq.mpr c8
   clear c8
   obtain rfl:=Option.some.inj H
   go_enter Try.func51,Try.ntmps51
   go_wp2_with (first | ((with_reducible refine gate_dst (N:=1) rfl ?_);refine box_event ?hg (N:=1) ?hd (cs:=#[.int .i64 a0_0,.int .i64 a0_1,.int .i64 a0_2,.int .i64 a0_3,.slice A0_4 l0_4.length c0_4,.slice A0_5 l0_5.length c0_5,.string a0_6,.int .i64 a0_7]) (t:=39) ?hr ?_;(case hd=>rfl);(case hg=>rfl);(case hr=>first | (go_simp;done) | (go_simp;rfl));intro gb139 hg w9 hbox hb;have n0_:=aM (below_step (zB HB.out) hb);have n1_:=aM (hbox);have n2_:=aM ((by rw [hg];exact (below_size (zB HB.out)):w.heap.size≤gb139));have n3_:=aM ((by rw [hg];exact (below_size (zB HB.out)):w.heap.size≤gb139));clear HB;have HB:=n0_;have BK139:=n1_;have GE139:=n3_;clear n0_ n1_ n2_ n3_;clear hb hbox hg;have hcz10_0:w9.cell? ⟨gb139,0,none⟩=some (.int .i64 a0_0):=(blk_cell BK139.out 0).trans rfl;have hcz10_4:w9.cell? ⟨gb139,4,none⟩=some (.slice A0_4 l0_4.length c0_4):=(blk_cell BK139.out 4).trans rfl;have hcz10_5:w9.cell? ⟨gb139,5,none⟩=some (.slice A0_5 l0_5.length c0_5):=(blk_cell BK139.out 5).trans rfl))
   go_ret
   exact ⟨zF,zC HB.out GE139.out⟩
  ·rw [if_neg c8] at H
   have c8b0:(a0_0==21)=false:=beq_eq_false_iff_ne.mpr c8
   by_cases c11:a0_0=28
   ·rw [if_pos c11] at H
    have c11b0:(a0_0==28)=true:=beq_iff_eq.mpr c11
    clear c11
    by_cases c12:(l0_4.length:Int)≤1
    ·rw [if_pos c12] at H
     have c12b0:decide ((l0_4.length:Int)≤1)=true:=decide_eq_true c12
     clear c12
     obtain rfl:=Option.some.inj H
     go_enter Try.func51,Try.ntmps51
     go_wp2_with (first | ((with_reducible refine gate_dst (N:=1) rfl ?_);refine box_event ?hg (N:=1) ?hd (cs:=#[.int .i64 a0_0,.int .i64 a0_1,.int .i64 a0_2,.int .i64 a0_3,.slice A0_4 l0_4.length c0_4,.slice A0_5 l0_5.length c0_5,.string a0_6,.int .i64 a0_7]) (t:=39) ?hr ?_;(case hd=>rfl);(case hg=>rfl);(case hr=>first | (go_simp;done) | (go_simp;rfl));intro gb139 hg w13 hbox hb;have n0_:=aM (below_step (zB HB.out) hb);have n1_:=aM (hbox);have n2_:=aM ((by rw [hg];exact (below_size (zB HB.out)):w.heap.size≤gb139));have n3_:=aM ((by rw [hg];exact (below_size (zB HB.out)):w.heap.size≤gb139));clear HB;have HB:=n0_;have BK139:=n1_;have GE139:=n3_;clear n0_ n1_ n2_ n3_;clear hb hbox hg;have hcz14_0:w13.cell? ⟨gb139,0,none⟩=some (.int .i64 a0_0):=(blk_cell BK139.out 0).trans rfl;have hcz14_4:w13.cell? ⟨gb139,4,none⟩=some (.slice A0_4 l0_4.length c0_4):=(blk_cell BK139.out 4).trans rfl;have hcz14_5:w13.cell? ⟨gb139,5,none⟩=some (.slice A0_5 l0_5.length c0_5):=(blk_cell BK139.out 5).trans rfl))
     go_ret
     exact ⟨zF,zC HB.out GE139.out⟩
    ·rw [if_neg c12] at H
     have c12b0:decide ((l0_4.length:Int)≤1)=false:=decide_eq_false c12
     clear c12
     obtain rfl:=Option.some.inj H
     go_enter Try.func51,Try.ntmps51
     go_wp2_with (first | ((with_reducible refine gate_dst (N:=1) rfl ?_);refine box_event ?hg (N:=1) ?hd (cs:=#[.int .i64 a0_0,.int .i64 a0_1,.int .i64 a0_2,.int .i64 a0_3,.slice A0_4 l0_4.length c0_4,.slice A0_5 l0_5.length c0_5,.string a0_6,.int .i64 a0_7]) (t:=39) ?hr ?_;(case hd=>rfl);(case hg=>rfl);(case hr=>first | (go_simp;done) | (go_simp;rfl));intro gb139 hg w15 hbox hb;have n0_:=aM (below_step (zB HB.out) hb);have n1_:=aM (hbox);have n2_:=aM ((by rw [hg];exact (below_size (zB HB.out)):w.heap.size≤gb139));have n3_:=aM ((by rw [hg];exact (below_size (zB HB.out)):w.heap.size≤gb139));clear HB;have HB:=n0_;have BK139:=n1_;have GE139:=n3_;clear n0_ n1_ n2_ n3_;clear hb hbox hg;have hcz16_0:w15.cell? ⟨gb139,0,none⟩=some (.int .i64 a0_0):=(blk_cell BK139.out 0).trans rfl;have hcz16_4:w15.cell? ⟨gb139,4,none⟩=some (.slice A0_4 l0_4.length c0_4):=(blk_cell BK139.out 4).trans rfl;have hcz16_5:w15.cell? ⟨gb139,5,none⟩=some (.slice A0_5 l0_5.length c0_5):=(blk_cell BK139.out 5).trans rfl))
     go_ret
     exact ⟨zF,zC HB.out GE139.out⟩
   ·rw [if_neg c11] at H
    have c11b0:(a0_0==28)=false:=beq_eq_false_iff_ne.mpr c11
    by_cases c17:a0_0=24
    ·rw [if_pos c17] at H
     have c17b0:(a0_0==24)=true:=beq_iff_eq.mpr c17
     clear c17
     by_cases c18:(l0_4.length:Int)=1
     ·rw [if_pos c18] at H
      have c18b0:((l0_4.length:Int)==1)=true:=beq_iff_eq.mpr c18
      clear c18
      obtain rfl:=Option.some.inj H
      go_enter Try.func51,Try.ntmps51
      go_wp2_with (first | ((with_reducible refine gate_dst (N:=1) rfl ?_);refine box_event ?hg (N:=1) ?hd (cs:=#[.int .i64 a0_0,.int .i64 a0_1,.int .i64 a0_2,.int .i64 a0_3,.slice A0_4 l0_4.length c0_4,.slice A0_5 l0_5.length c0_5,.string a0_6,.int .i64 a0_7]) (t:=39) ?hr ?_;(case hd=>rfl);(case hg=>rfl);(case hr=>first | (go_simp;done) | (go_simp;rfl));intro gb139 hg w19 hbox hb;have n0_:=aM (below_step (zB HB.out) hb);have n1_:=aM (hbox);have n2_:=aM ((by rw [hg];exact (below_size (zB HB.out)):w.heap.size≤gb139));have n3_:=aM ((by rw [hg];exact (below_size (zB HB.out)):w.heap.size≤gb139));clear HB;have HB:=n0_;have BK139:=n1_;have GE139:=n3_;clear n0_ n1_ n2_ n3_;clear hb hbox hg;have hcz20_0:w19.cell? ⟨gb139,0,none⟩=some (.int .i64 a0_0):=(blk_cell BK139.out 0).trans rfl;have hcz20_4:w19.cell? ⟨gb139,4,none⟩=some (.slice A0_4 l0_4.length c0_4):=(blk_cell BK139.out 4).trans rfl;have hcz20_5:w19.cell? ⟨gb139,5,none⟩=some (.slice A0_5 l0_5.length c0_5):=(blk_cell BK139.out 5).trans rfl))
      go_ret
      exact ⟨zF,zC HB.out GE139.out⟩
     ·rw [if_neg c18] at H
      have c18b0:((l0_4.length:Int)==1)=false:=beq_eq_false_iff_ne.mpr c18
      obtain rfl:=Option.some.inj H
      go_enter Try.func51,Try.ntmps51
      go_wp2_with (first | ((with_reducible refine gate_dst (N:=1) rfl ?_);refine box_event ?hg (N:=1) ?hd (cs:=#[.int .i64 a0_0,.int .i64 a0_1,.int .i64 a0_2,.int .i64 a0_3,.slice A0_4 l0_4.length c0_4,.slice A0_5 l0_5.length c0_5,.string a0_6,.int .i64 a0_7]) (t:=39) ?hr ?_;(case hd=>rfl);(case hg=>rfl);(case hr=>first | (go_simp;done) | (go_simp;rfl));intro gb139 hg w21 hbox hb;have n0_:=aM (below_step (zB HB.out) hb);have n1_:=aM (hbox);have n2_:=aM ((by rw [hg];exact (below_size (zB HB.out)):w.heap.size≤gb139));have n3_:=aM ((by rw [hg];exact (below_size (zB HB.out)):w.heap.size≤gb139));clear HB;have HB:=n0_;have BK139:=n1_;have GE139:=n3_;clear n0_ n1_ n2_ n3_;clear hb hbox hg;have hcz22_0:w21.cell? ⟨gb139,0,none⟩=some (.int .i64 a0_0):=(blk_cell BK139.out 0).trans rfl;have hcz22_4:w21.cell? ⟨gb139,4,none⟩=some (.slice A0_4 l0_4.length c0_4):=(blk_cell BK139.out 4).trans rfl;have hcz22_5:w21.cell? ⟨gb139,5,none⟩=some (.slice A0_5 l0_5.length c0_5):=(blk_cell BK139.out 5).trans rfl))
      go_ret
      exact ⟨zF,zC HB.out GE139.out⟩
    ·rw [if_neg c17] at H
     have c17b0:(a0_0==24)=false:=beq_eq_false_iff_ne.mpr c17
     by_cases c23:a0_0=26
     ·rw [if_pos c23] at H
      have c23b0:(a0_0==26)=true:=beq_iff_eq.mpr c23
      clear c23
      by_cases c24:(l0_4.length:Int)=0
      ·rw [if_pos c24] at H
       have c24b0:((l0_4.length:Int)==0)=true:=beq_iff_eq.mpr c24
       clear c24
       obtain rfl:=Option.some.inj H
       go_enter Try.func51,Try.ntmps51
       go_wp2_with (first | ((with_reducible refine gate_dst (N:=1) rfl ?_);refine box_event ?hg (N:=1) ?hd (cs:=#[.int .i64 a0_0,.int .i64 a0_1,.int .i64 a0_2,.int .i64 a0_3,.slice A0_4 l0_4.length c0_4,.slice A0_5 l0_5.length c0_5,.string a0_6,.int .i64 a0_7]) (t:=39) ?hr ?_;(case hd=>rfl);(case hg=>rfl);(case hr=>first | (go_simp;done) | (go_simp;rfl));intro gb139 hg w25 hbox hb;have n0_:=aM (below_step (zB HB.out) hb);have n1_:=aM (hbox);have n2_:=aM ((by rw [hg];exact (below_size (zB HB.out)):w.heap.size≤gb139));have n3_:=aM ((by rw [hg];exact (below_size (zB HB.out)):w.heap.size≤gb139));clear HB;have HB:=n0_;have BK139:=n1_;have GE139:=n3_;clear n0_ n1_ n2_ n3_;clear hb hbox hg;have hcz26_0:w25.cell? ⟨gb139,0,none⟩=some (.int .i64 a0_0):=(blk_cell BK139.out 0).trans rfl;have hcz26_4:w25.cell? ⟨gb139,4,none⟩=some (.slice A0_4 l0_4.length c0_4):=(blk_cell BK139.out 4).trans rfl;have hcz26_5:w25.cell? ⟨gb139,5,none⟩=some (.slice A0_5 l0_5.length c0_5):=(blk_cell BK139.out 5).trans rfl))
       go_ret
       exact ⟨zF,zC HB.out GE139.out⟩
      ·rw [if_neg c24] at H
       have c24b0:((l0_4.length:Int)==0)=false:=beq_eq_false_iff_ne.mpr c24
       obtain rfl:=Option.some.inj H
       go_enter Try.func51,Try.ntmps51
       go_wp2_with (first | ((with_reducible refine gate_dst (N:=1) rfl ?_);refine box_event ?hg (N:=1) ?hd (cs:=#[.int .i64 a0_0,.int .i64 a0_1,.int .i64 a0_2,.int .i64 a0_3,.slice A0_4 l0_4.length c0_4,.slice A0_5 l0_5.length c0_5,.string a0_6,.int .i64 a0_7]) (t:=39) ?hr ?_;(case hd=>rfl);(case hg=>rfl);(case hr=>first | (go_simp;done) | (go_simp;rfl));intro gb139 hg w27 hbox hb;have n0_:=aM (below_step (zB HB.out) hb);have n1_:=aM (hbox);have n2_:=aM ((by rw [hg];exact (below_size (zB HB.out)):w.heap.size≤gb139));have n3_:=aM ((by rw [hg];exact (below_size (zB HB.out)):w.heap.size≤gb139));clear HB;have HB:=n0_;have BK139:=n1_;have GE139:=n3_;clear n0_ n1_ n2_ n3_;clear hb hbox hg;have hcz28_0:w27.cell? ⟨gb139,0,none⟩=some (.int .i64 a0_0):=(blk_cell BK139.out 0).trans rfl;have hcz28_4:w27.cell? ⟨gb139,4,none⟩=some (.slice A0_4 l0_4.length c0_4):=(blk_cell BK139.out 4).trans rfl;have hcz28_5:w27.cell? ⟨gb139,5,none⟩=some (.slice A0_5 l0_5.length c0_5):=(blk_cell BK139.out 5).trans rfl))
       go_ret
       exact ⟨zF,zC HB.out GE139.out⟩
     ·rw [if_neg c23] at H
      have c23b0:(a0_0==26)=false:=beq_eq_false_iff_ne.mpr c23
      by_cases c29:a0_0=27
      ·rw [if_pos c29] at H
       have c29b0:(a0_0==27)=true:=beq_iff_eq.mpr c29
       clear c29
       by_cases c30:(l0_4.length:Int)=1
       ·rw [if_pos c30] at H
        have c30b0:((l0_4.length:Int)==1)=true:=beq_iff_eq.mpr c30
        clear c30
        obtain rfl:=Option.some.inj H
        go_enter Try.func51,Try.ntmps51
        go_wp2_with (first | ((with_reducible refine gate_dst (N:=1) rfl ?_);refine box_event ?hg (N:=1) ?hd (cs:=#[.int .i64 a0_0,.int .i64 a0_1,.int .i64 a0_2,.int .i64 a0_3,.slice A0_4 l0_4.length c0_4,.slice A0_5 l0_5.length c0_5,.string a0_6,.int .i64 a0_7]) (t:=39) ?hr ?_;(case hd=>rfl);(case hg=>rfl);(case hr=>first | (go_simp;done) | (go_simp;rfl));intro gb139 hg w31 hbox hb;have n0_:=aM (below_step (zB HB.out) hb);have n1_:=aM (hbox);have n2_:=aM ((by rw [hg];exact (below_size (zB HB.out)):w.heap.size≤gb139));have n3_:=aM ((by rw [hg];exact (below_size (zB HB.out)):w.heap.size≤gb139));clear HB;have HB:=n0_;have BK139:=n1_;have GE139:=n3_;clear n0_ n1_ n2_ n3_;clear hb hbox hg;have hcz32_0:w31.cell? ⟨gb139,0,none⟩=some (.int .i64 a0_0):=(blk_cell BK139.out 0).trans rfl;have hcz32_4:w31.cell? ⟨gb139,4,none⟩=some (.slice A0_4 l0_4.length c0_4):=(blk_cell BK139.out 4).trans rfl;have hcz32_5:w31.cell? ⟨gb139,5,none⟩=some (.slice A0_5 l0_5.length c0_5):=(blk_cell BK139.out 5).trans rfl))
        go_ret
        exact ⟨zF,zC HB.out GE139.out⟩
       ·rw [if_neg c30] at H
        have c30b0:((l0_4.length:Int)==1)=false:=beq_eq_false_iff_ne.mpr c30
        obtain rfl:=Option.some.inj H
        go_enter Try.func51,Try.ntmps51
        go_wp2_with (first | ((with_reducible refine gate_dst (N:=1) rfl ?_);refine box_event ?hg (N:=1) ?hd (cs:=#[.int .i64 a0_0,.int .i64 a0_1,.int .i64 a0_2,.int .i64 a0_3,.slice A0_4 l0_4.length c0_4,.slice A0_5 l0_5.length c0_5,.string a0_6,.int .i64 a0_7]) (t:=39) ?hr ?_;(case hd=>rfl);(case hg=>rfl);(case hr=>first | (go_simp;done) | (go_simp;rfl));intro gb139 hg w33 hbox hb;have n0_:=aM (below_step (zB HB.out) hb);have n1_:=aM (hbox);have n2_:=aM ((by rw [hg];exact (below_size (zB HB.out)):w.heap.size≤gb139));have n3_:=aM ((by rw [hg];exact (below_size (zB HB.out)):w.heap.size≤gb139));clear HB;have HB:=n0_;have BK139:=n1_;have GE139:=n3_;clear n0_ n1_ n2_ n3_;clear hb hbox hg;have hcz34_0:w33.cell? ⟨gb139,0,none⟩=some (.int .i64 a0_0):=(blk_cell BK139.out 0).trans rfl;have hcz34_4:w33.cell? ⟨gb139,4,none⟩=some (.slice A0_4 l0_4.length c0_4):=(blk_cell BK139.out 4).trans rfl;have hcz34_5:w33.cell? ⟨gb139,5,none⟩=some (.slice A0_5 l0_5.length c0_5):=(blk_cell BK139.out 5).trans rfl))
        go_ret
        exact ⟨zF,zC HB.out GE139.out⟩
      ·rw [if_neg c29] at H
       have c29b0:(a0_0==27)=false:=beq_eq_false_iff_ne.mpr c29
       replace H:=Option.bind_eq_some_iff.mp H
       obtain ⟨t140,A350,H⟩:=H
       have A35:=aM A350
       clear A350
       by_cases c36:(l0_4.length:Int)=(t140.length:Int)
       ·rw [if_pos c36] at H
        have c36b0:((l0_4.length:Int)==(t140.length:Int))=true:=beq_iff_eq.mpr c36
        clear c36
        obtain rfl:=Option.some.inj H
        go_enter Try.func51,Try.ntmps51
        go_wp2_with (first | ((with_reducible refine gate_dst (N:=1) rfl ?_);refine box_event ?hg (N:=1) ?hd (cs:=#[.int .i64 a0_0,.int .i64 a0_1,.int .i64 a0_2,.int .i64 a0_3,.slice A0_4 l0_4.length c0_4,.slice A0_5 l0_5.length c0_5,.string a0_6,.int .i64 a0_7]) (t:=39) ?hr ?_;(case hd=>rfl);(case hg=>rfl);(case hr=>first | (go_simp;done) | (go_simp;rfl));intro gb139 hg w37 hbox hb;have n0_:=aM (below_step (zB HB.out) hb);have n1_:=aM (hbox);have n2_:=aM ((by rw [hg];exact (below_size (zB HB.out)):w.heap.size≤gb139));have n3_:=aM ((by rw [hg];exact (below_size (zB HB.out)):w.heap.size≤gb139));clear HB;have HB:=n0_;have BK139:=n1_;have GE139:=n3_;clear n0_ n1_ n2_ n3_;clear hb hbox hg;have hcz38_0:w37.cell? ⟨gb139,0,none⟩=some (.int .i64 a0_0):=(blk_cell BK139.out 0).trans rfl;have hcz38_4:w37.cell? ⟨gb139,4,none⟩=some (.slice A0_4 l0_4.length c0_4):=(blk_cell BK139.out 4).trans rfl;have hcz38_5:w37.cell? ⟨gb139,5,none⟩=some (.slice A0_5 l0_5.length c0_5):=(blk_cell BK139.out 5).trans rfl) | ((with_reducible refine gate_callee (f:=72) rfl ?_);refine goesL_ (some 61) rfl rfl Try.func72 (by kernel_rfl) rfl #[.int .i64 a0_0] rfl zA ?_;(with_reducible refine (r05_Takes.calls k a0_0 t140 _ A35.out).mono ?_);rintro e w39 ⟨v141,rfl,ho0,hb⟩;refine ⟨_,rfl,?_⟩;have n0_:=aM (Kd.R_lower ho0 (below_size (zC HB.out GE139.out)));have n1_:=aM (blk_below (g:=gb139) (o:=.cells #[.int .i64 a0_0,.int .i64 a0_1,.int .i64 a0_2,.int .i64 a0_3,.slice A0_4 l0_4.length c0_4,.slice A0_5 l0_5.length c0_5,.string a0_6,.int .i64 a0_7] 39 (0,0)) (zK BK139.out) hb);have n2_:=aM (below_step (zC HB.out GE139.out) hb);clear BK139;clear HB;have HO142:=n0_;have BK139:=n1_;have HB:=n2_;clear n0_ n1_ n2_;(try clear hb);(try clear hb2);(try clear hk);(try clear hi);(try clear ho0);obtain ⟨Ao40,co40,eo40⟩:=Kd.R_slice HO142.out;subst eo40))
        go_ret
        exact ⟨zF,zC HB.out GE139.out⟩
       ·rw [if_neg c36] at H
        have c36b0:((l0_4.length:Int)==(t140.length:Int))=false:=beq_eq_false_iff_ne.mpr c36
        obtain rfl:=Option.some.inj H
        go_enter Try.func51,Try.ntmps51
        go_wp2_with (first | ((with_reducible refine gate_dst (N:=1) rfl ?_);refine box_event ?hg (N:=1) ?hd (cs:=#[.int .i64 a0_0,.int .i64 a0_1,.int .i64 a0_2,.int .i64 a0_3,.slice A0_4 l0_4.length c0_4,.slice A0_5 l0_5.length c0_5,.string a0_6,.int .i64 a0_7]) (t:=39) ?hr ?_;(case hd=>rfl);(case hg=>rfl);(case hr=>first | (go_simp;done) | (go_simp;rfl));intro gb139 hg w41 hbox hb;have n0_:=aM (below_step (zB HB.out) hb);have n1_:=aM (hbox);have n2_:=aM ((by rw [hg];exact (below_size (zB HB.out)):w.heap.size≤gb139));have n3_:=aM ((by rw [hg];exact (below_size (zB HB.out)):w.heap.size≤gb139));clear HB;have HB:=n0_;have BK139:=n1_;have GE139:=n3_;clear n0_ n1_ n2_ n3_;clear hb hbox hg;have hcz42_0:w41.cell? ⟨gb139,0,none⟩=some (.int .i64 a0_0):=(blk_cell BK139.out 0).trans rfl;have hcz42_4:w41.cell? ⟨gb139,4,none⟩=some (.slice A0_4 l0_4.length c0_4):=(blk_cell BK139.out 4).trans rfl;have hcz42_5:w41.cell? ⟨gb139,5,none⟩=some (.slice A0_5 l0_5.length c0_5):=(blk_cell BK139.out 5).trans rfl) | ((with_reducible refine gate_callee (f:=72) rfl ?_);refine goesL_ (some 61) rfl rfl Try.func72 (by kernel_rfl) rfl #[.int .i64 a0_0] rfl zA ?_;(with_reducible refine (r05_Takes.calls k a0_0 t140 _ A35.out).mono ?_);rintro e w43 ⟨v141,rfl,ho0,hb⟩;refine ⟨_,rfl,?_⟩;have n0_:=aM (Kd.R_lower ho0 (below_size (zC HB.out GE139.out)));have n1_:=aM (blk_below (g:=gb139) (o:=.cells #[.int .i64 a0_0,.int .i64 a0_1,.int .i64 a0_2,.int .i64 a0_3,.slice A0_4 l0_4.length c0_4,.slice A0_5 l0_5.length c0_5,.string a0_6,.int .i64 a0_7] 39 (0,0)) (zK BK139.out) hb);have n2_:=aM (below_step (zC HB.out GE139.out) hb);clear BK139;clear HB;have HO142:=n0_;have BK139:=n1_;have HB:=n2_;clear n0_ n1_ n2_;(try clear hb);(try clear hb2);(try clear hk);(try clear hi);(try clear ho0);obtain ⟨Ao44,co44,eo44⟩:=Kd.R_slice HO142.out;subst eo44))
        go_ret
        exact ⟨zF,zC HB.out GE139.out⟩
mutual
def r06_letters.j0:Nat→Int→Int→Bool→Option (ByteArray)
 | 0,_,_,_=>none
 | k+1,x0,x5,x6=>if x6=true then (some (⟨#[118,115]⟩:ByteArray)) else (if x5=13 then (r06_letters.j1 k x0 x5 (x5==13)) else (r06_letters.j1 k x0 x5 (x5==14)))
def r06_letters.j1:Nat→Int→Int→Bool→Option (ByteArray)
 | 0,_,_,_=>none
 | k+1,x0,x5,x10=>if x10=true then (some (⟨#[118,115,118]⟩:ByteArray)) else (if x5=23 then (some (⟨#[110]⟩:ByteArray)) else (if x5=24 then (some (⟨#[118,110]⟩:ByteArray)) else (if x5=26 then (some (⟨#[108]⟩:ByteArray)) else (if x5=27 then (some (⟨#[118,108,108]⟩:ByteArray)) else (r06_letters.l0 k x0 (⟨#[]⟩:ByteArray) 0)))))
def r06_letters.l0:Nat→Int→ByteArray→Int→Option (ByteArray)
 | 0,_,_,_=>none
 | k+1,x0,x3,x4=>(r05_Takes.f k x0).bind fun t392=>(if x4<(t392.length:Int) then (if x3.size+1≤9223372036854775807 then (r06_letters.l0 k x0 (x3++(⟨#[118]⟩:ByteArray)) (wrap64 (x4+1))) else (none)) else (some x3))
end
def r06_letters.f (k:Nat) (a0:Int):Option (ByteArray):=if a0=11 then (r06_letters.j0 k a0 a0 (a0==11)) else (if a0=12 then (r06_letters.j0 k a0 a0 (a0==12)) else (r06_letters.j0 k a0 a0 (a0==15)))
theorem r06_letters.calls (k:Nat) (a0:Int) (r:ByteArray) (w:World) (h:r06_letters.f k a0=some r):
  Calls Try.prog 115 #[.int .i64 a0] w fun e w'=>e=.returned (.string r)∧Below w.heap.size w w':=by
 have HB:=aM (Below.refl w.heap.size w)
 have H:(if a0=11 then (r06_letters.j0 k a0 a0 (a0==11)) else (if a0=12 then (r06_letters.j0 k a0 a0 (a0==12)) else (r06_letters.j0 k a0 a0 (a0==15))))=some r:=h
 clear h
 have HC2:=aM H
 clear H
 go_enter Try.func115,Try.ntmps115
 go_upto_if 6 with (fail)
 go_cut [6] (fun v6 wc=>∃ (kq:Nat) (x6_1:Bool),v6=.bool x6_1∧Aside0 (r06_letters.j0 kq a0 a0 x6_1=some r)∧Aside0 (kq≤k)∧Aside0 (Below w.heap.size w wc))
 case first=>
  have H:=HC2.out
  clear HC2
  by_cases c3:a0=11
  ·rw [if_pos c3] at H
   have c3b0:(a0==11)=true:=beq_iff_eq.mpr c3
   clear c3
   (first | rw [c3b0] | (simp only [i64_w,i32_w];rw [c3b0]) | skip)
   have H':=aM H
   clear H
   go_wp2
   go_meet
   case rel=>exact ⟨_,((a0==11)),(by first | rfl | (simp;done) | (simp [*];done)),H',⟨by first | omega | exact Nat.le_refl _⟩,⟨zB HB.out⟩⟩
  ·rw [if_neg c3] at H
   have c3b0:(a0==11)=false:=beq_eq_false_iff_ne.mpr c3
   (first | rw [c3b0] | (simp only [i64_w,i32_w];rw [c3b0]) | skip)
   by_cases c4:a0=12
   ·rw [if_pos c4] at H
    have c4b0:(a0==12)=true:=beq_iff_eq.mpr c4
    clear c4
    have H':=aM H
    clear H
    go_wp2
    go_meet
    case rel=>exact ⟨_,((a0==12)),(by first | rfl | (simp;done) | (simp [*];done)),H',⟨by first | omega | exact Nat.le_refl _⟩,⟨zB HB.out⟩⟩
   ·rw [if_neg c4] at H
    have c4b0:(a0==12)=false:=beq_eq_false_iff_ne.mpr c4
    have H':=aM H
    clear H
    go_wp2
    go_meet
    case rel=>exact ⟨_,((a0==15)),(by first | rfl | (simp;done) | (simp [*];done)),H',⟨by first | omega | exact Nat.le_refl _⟩,⟨zB HB.out⟩⟩
 case rest=>
  clear HC2
  obtain ⟨kq,x6_1,rfl,HA,HJ1,HB⟩:=hcut
  cases kq with
  | zero=>exact absurd HA.out (by simp [r06_letters.j0])
  | succ kj1=>
   have H:=HA.out
   clear HA
   simp only [r06_letters.j0] at H
   by_cases c5:x6_1=true
   ·subst c5
    have H1:(some (⟨#[118,115]⟩:ByteArray))=some r:=by rw [if_pos rfl] at H;exact H
    clear H
    have H:=H1
    clear H1
    obtain rfl:=Option.some.inj H
    go_wp2
    go_ret
    exact ⟨zF,zB HB.out⟩
   ·replace c5:=Bool.eq_false_iff.mpr c5
    subst c5
    have H1:(if a0=13 then (r06_letters.j1 kj1 a0 a0 (a0==13)) else (r06_letters.j1 kj1 a0 a0 (a0==14)))=some r:=by rw [if_neg (show ¬ (false=true) by decide)] at H;exact H
    clear H
    have H:=H1
    clear H1
    have HC6:=aM H
    clear H
    go_upto_if 10 with (fail)
    go_cut [10] (fun v10 wc=>∃ (kq:Nat) (x10_5:Bool),v10=.bool x10_5∧Aside0 (r06_letters.j1 kq a0 a0 x10_5=some r)∧Aside0 (kq≤kj1)∧Aside0 (Below w.heap.size w wc))
    case first=>
     have H:=HC6.out
     clear HC6
     by_cases c7:a0=13
     ·rw [if_pos c7] at H
      have c7b0:(a0==13)=true:=beq_iff_eq.mpr c7
      clear c7
      (first | rw [c7b0] | (simp only [i64_w,i32_w];rw [c7b0]) | skip)
      have H':=aM H
      clear H
      go_wp2
      go_meet
      case rel=>exact ⟨_,((a0==13)),(by first | rfl | (simp;done) | (simp [*];done)),H',⟨by have:=HJ1.out;first | omega | exact Nat.le_refl _⟩,⟨zB HB.out⟩⟩
     ·rw [if_neg c7] at H
      have c7b0:(a0==13)=false:=beq_eq_false_iff_ne.mpr c7
      (first | rw [c7b0] | (simp only [i64_w,i32_w];rw [c7b0]) | skip)
      have H':=aM H
      clear H
      go_wp2
      go_meet
      case rel=>exact ⟨_,((a0==14)),(by first | rfl | (simp;done) | (simp [*];done)),H',⟨by have:=HJ1.out;first | omega | exact Nat.le_refl _⟩,⟨zB HB.out⟩⟩
    case rest=>
     clear HC6
     obtain ⟨kq,x10_5,rfl,HA,HJ5,HB⟩:=hcut
     cases kq with
     | zero=>exact absurd HA.out (by simp [r06_letters.j1])
     | succ kj5=>
      have H:=HA.out
      clear HA
      simp only [r06_letters.j1] at H
      by_cases c8:x10_5=true
      ·subst c8
       have H1:(some (⟨#[118,115,118]⟩:ByteArray))=some r:=by rw [if_pos rfl] at H;exact H
       clear H
       have H:=H1
       clear H1
       obtain rfl:=Option.some.inj H
       go_wp2
       go_ret
       exact ⟨zF,zB HB.out⟩
      ·replace c8:=Bool.eq_false_iff.mpr c8
       subst c8
       have H1:(if a0=23 then (some (⟨#[110]⟩:ByteArray)) else (if a0=24 then (some (⟨#[118,110]⟩:ByteArray)) else (if a0=26 then (some (⟨#[108]⟩:ByteArray)) else (if a0=27 then (some (⟨#[118,108,108]⟩:ByteArray)) else (r06_letters.l0 kj5 a0 (⟨#[]⟩:ByteArray) 0)))))=some r:=by rw [if_neg (show ¬ (false=true) by decide)] at H;exact H
       clear H
       have H:=H1
       clear H1
       by_cases c9:a0=23
       ·rw [if_pos c9] at H
        have c9b0:(a0==23)=true:=beq_iff_eq.mpr c9
        clear c9
        obtain rfl:=Option.some.inj H
        go_wp2
        go_ret
        exact ⟨zF,zB HB.out⟩
       ·rw [if_neg c9] at H
        have c9b0:(a0==23)=false:=beq_eq_false_iff_ne.mpr c9
        by_cases c10:a0=24
        ·rw [if_pos c10] at H
         have c10b0:(a0==24)=true:=beq_iff_eq.mpr c10
         clear c10
         obtain rfl:=Option.some.inj H
         go_wp2
         go_ret
         exact ⟨zF,zB HB.out⟩
        ·rw [if_neg c10] at H
         have c10b0:(a0==24)=false:=beq_eq_false_iff_ne.mpr c10
         by_cases c11:a0=26
         ·rw [if_pos c11] at H
          have c11b0:(a0==26)=true:=beq_iff_eq.mpr c11
          clear c11
          obtain rfl:=Option.some.inj H
          go_wp2
          go_ret
          exact ⟨zF,zB HB.out⟩
         ·rw [if_neg c11] at H
          have c11b0:(a0==26)=false:=beq_eq_false_iff_ne.mpr c11
          by_cases c12:a0=27
          ·rw [if_pos c12] at H
           have c12b0:(a0==27)=true:=beq_iff_eq.mpr c12
           clear c12
           obtain rfl:=Option.some.inj H
           go_wp2
           go_ret
           exact ⟨zF,zB HB.out⟩
          ·rw [if_neg c12] at H
           have c12b0:(a0==27)=false:=beq_eq_false_iff_ne.mpr c12
           have H':=aM H
           clear H
           go_wp2
           go_loopg [3,4] kj5 (fun kq v3 v4 w'=>∃ (x3_3:ByteArray) (x4_3:Int),v3=.string x3_3∧v4=.int .i64 x4_3∧Aside0 (r06_letters.l0 kq a0 x3_3 x4_3=some r)∧Aside0 (kq≤kj5)∧Aside0 (Below w.heap.size w w'))
           case atStart=>exact ⟨((⟨#[]⟩:ByteArray)),(0),(by first | rfl | (simp;done) | (simp [*];done)),(by first | rfl | (simp;done) | (simp [*];done)),H',⟨Nat.le_refl _⟩,⟨zB HB.out⟩⟩
           case round=>
            clear H' c9 c9b0 c10 c10b0 c11 c11b0 c12 c12b0
            obtain ⟨x3_3,x4_3,rfl,rfl,HA,HK3,HB⟩:=hrel
            cases gk with
            | zero=>exact absurd HA.out (by simp [r06_letters.l0])
            | succ k3=>
             have H:=HA.out
             clear HA
             simp only [r06_letters.l0] at H
             replace H:=Option.bind_eq_some_iff.mp H
             obtain ⟨t392,A130,H⟩:=H
             have A13:=aM A130
             clear A130
             by_cases c14:x4_3<(t392.length:Int)
             ·rw [if_pos c14] at H
              have c14b0:decide (x4_3<(t392.length:Int))=true:=decide_eq_true c14
              clear c14
              by_cases c15:x3_3.size+1≤9223372036854775807
              ·rw [if_pos c15] at H
               try have c15b2:(9223372036854775807<x3_3.size+1)=False:=eq_false (Nat.not_lt.2 c15)
               have H':=aM H
               clear H
               go_wp2_with (first | ((with_reducible refine gate_callee (f:=72) rfl ?_);refine goesL_ (some 23) rfl rfl Try.func72 (by kernel_rfl) rfl #[.int .i64 a0] rfl zA ?_;(with_reducible refine (r05_Takes.calls k3 a0 t392 _ A13.out).mono ?_);rintro e w16 ⟨v393,rfl,ho0,hb⟩;refine ⟨_,rfl,?_⟩;have n0_:=aM (Kd.R_lower ho0 (below_size (zB HB.out)));have n1_:=aM (below_step (zB HB.out) hb);clear HB;have HO394:=n0_;have HB:=n1_;clear n0_ n1_;(try clear hb);(try clear hb2);(try clear hk);(try clear hi);(try clear ho0);obtain ⟨Ao17,co17,eo17⟩:=Kd.R_slice HO394.out;subst eo17))
               go_roundg k3
               case measure=>have:=HJ1.out;have:=HJ5.out;have:=HK3.out;omega
               case rel=>exact ⟨(x3_3++(⟨#[118]⟩:ByteArray)),(wrap64 (x4_3+1)),(by first | rfl | (simp;done) | (simp [*];done)),(by first | rfl | (simp;done) | (simp [*];done)),H',⟨by have:=HJ1.out;have:=HJ5.out;have:=HK3.out;omega⟩,⟨zB HB.out⟩⟩
              ·rw [if_neg c15] at H
               exact absurd H (by simp)
             ·rw [if_neg c14] at H
              have c14b0:decide (x4_3<(t392.length:Int))=false:=decide_eq_false c14
              clear c14
              obtain rfl:=Option.some.inj H
              go_wp2_with (first | ((with_reducible refine gate_callee (f:=72) rfl ?_);refine goesL_ (some 23) rfl rfl Try.func72 (by kernel_rfl) rfl #[.int .i64 a0] rfl zA ?_;(with_reducible refine (r05_Takes.calls k3 a0 t392 _ A13.out).mono ?_);rintro e w18 ⟨v393,rfl,ho0,hb⟩;refine ⟨_,rfl,?_⟩;have n0_:=aM (Kd.R_lower ho0 (below_size (zB HB.out)));have n1_:=aM (below_step (zB HB.out) hb);clear HB;have HO394:=n0_;have HB:=n1_;clear n0_ n1_;(try clear hb);(try clear hb2);(try clear hk);(try clear hi);(try clear ho0);obtain ⟨Ao19,co19,eo19⟩:=Kd.R_slice HO394.out;subst eo19))
              go_ret
              exact ⟨zF,zB HB.out⟩
end Go.Proofs.Ytkjdblbgmomieaa.PSh
end
