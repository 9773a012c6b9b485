import Derived.Test.YtkjdblbgmomieaaMr2
import Derived.Test.YtkjdblbgmomieaaMr9
import Derived.Test.YtkjdblbgmomieaaMr12
import Derived.Test.YtkjdblbgmomieaaMr3
-- from YtkjdblbgmomieaaPShx20
section
namespace Go.Proofs.Ytkjdblbgmomieaa.PSh
set_option maxHeartbeats 8000000
set_option maxRecDepth 100000
open Go.RowKit Go.Proofs.YtkjdblbgmomieaaW.PrintWords Go.Proofs.YtkjdblbgmomieaaW.PrintLast Go.Proofs.YtkjdblbgmomieaaW.PrintMore Go.Proofs.Ytkjdblbgmomieaa.Zip
attribute [local go_sem] max2_int min2_int max_two min_two max_three min_three max_four min_four   -- for this text's walks alone
set_option linter.unusedVariables false
set_option linter.unusedSimpArgs false
def r06_Reader_want.f (s0_0:List (S101)) (s0_1:Int) (s0_2:Int) (s0_3:Int) (s0_4:Int) (s0_5:Int) (a1:ByteArray):Option (Int × Int × Int × Int × Int):=if s0_4=0 then ((r06_Reader_peek.f s0_0 s0_1 s0_2 s0_3 s0_4 s0_5 0).bind fun bt284=>(if bt284.1.toList=a1.toList then (some (wrap64 (bt284.2.1+1),bt284.2.2.1,bt284.2.2.2.1,bt284.2.2.2.2.1,bt284.2.2.2.2.2)) else ((r06_Reader_fail.f s0_0 bt284.2.1 bt284.2.2.1 bt284.2.2.2.1 bt284.2.2.2.2.1 bt284.2.2.2.2.2 2).bind fun bt290=>(some (bt290.1,bt290.2.1,bt290.2.2.1,bt290.2.2.2.1,bt290.2.2.2.2))))) else ((r06_Reader_fail.f s0_0 s0_1 s0_2 s0_3 s0_4 s0_5 2).bind fun bt295=>(some (bt295.1,bt295.2.1,bt295.2.2.1,bt295.2.2.2.1,bt295.2.2.2.2)))
theorem r06_Reader_want.calls (g:Nat) (s0_0:List (S101)) (s0_1:Int) (s0_2:Int) (s0_3:Int) (s0_4:Int) (s0_5:Int) (a1:ByteArray) (r1:Int) (r2:Int) (r3:Int) (r4:Int) (r5:Int) (w0 w:World) (hI:IsS89 w0 w g s0_0 s0_1 s0_2 s0_3 s0_4 s0_5) (hB:Below w0.heap.size w0 w) (h:r06_Reader_want.f s0_0 s0_1 s0_2 s0_3 s0_4 s0_5 a1=some (r1,r2,r3,r4,r5)):
  Calls Try.prog 84 #[.pointer (some ⟨g,0,none⟩),.string a1] w fun e w'=>e=.returned (.tuple #[])∧IsS89 w0 w' g s0_0 r1 r2 r3 r4 r5∧Below w0.heap.size w0 w'∧KeepBut w w' g none:=by
 have HI0:=aM hI
 have HK:=aM (KeepBut.refl w g none)
 clear hI
 have HB:=aM hB
 clear hB
 have H:(if s0_4=0 then ((r06_Reader_peek.f s0_0 s0_1 s0_2 s0_3 s0_4 s0_5 0).bind fun bt284=>(if bt284.1.toList=a1.toList then (some (wrap64 (bt284.2.1+1),bt284.2.2.1,bt284.2.2.2.1,bt284.2.2.2.2.1,bt284.2.2.2.2.2)) else ((r06_Reader_fail.f s0_0 bt284.2.1 bt284.2.2.1 bt284.2.2.2.1 bt284.2.2.2.2.1 bt284.2.2.2.2.2 2).bind fun bt290=>(some (bt290.1,bt290.2.1,bt290.2.2.1,bt290.2.2.2.1,bt290.2.2.2.2))))) else ((r06_Reader_fail.f s0_0 s0_1 s0_2 s0_3 s0_4 s0_5 2).bind fun bt295=>(some (bt295.1,bt295.2.1,bt295.2.2.1,bt295.2.2.2.1,bt295.2.2.2.2))))=some (r1,r2,r3,r4,r5):=h
 clear h
 by_cases c3:s0_4=0
 ·rw [if_pos c3] at H
  have c3b0:(s0_4==0)=true:=beq_iff_eq.mpr c3
  clear c3
  replace H:=Option.bind_eq_some_iff.mp H
  obtain ⟨⟨t284,t285,t286,t287,t288,t289⟩,A40,H⟩:=H
  have A4:=aM A40
  clear A40
  by_cases c5:t284.toList=a1.toList
  ·rw [if_pos c5] at H
   have c5b0:(t284.toList==a1.toList)=true:=beq_iff_eq.mpr c5
   clear c5
   simp only [Option.some.injEq,Prod.mk.injEq] at H
   obtain ⟨rfl,rfl,rfl,rfl,rfl⟩:=H
   obtain ⟨ASz6_0,cSz6_0,HGz6,hgz6,HSz6_0⟩:=HI0.out
   have hcz6_4:=cellS89_4 HGz6
   clear HGz6 hgz6
   go_enter Try.func84,Try.ntmps84
   go_wp2_with (first | (go_at_call 86;(with_reducible refine (r06_Reader_peek.calls g s0_0 s0_1 s0_2 s0_3 s0_4 s0_5 0 t284 t285 t286 t287 t288 t289 w0 _ ?side1 ?side2 A4.out).mono ?_);(case side1=>repeat (first | (with_reducible first | exact HI0.out | apply IsS89.alloc | apply IsS89.drewN | apply IsS89.drew | apply IsS89.set_1 | apply IsS89.set_2 | apply IsS89.set_3 | apply IsS89.set_4 | apply IsS89.set_5) | exact HI0.out));(case side2=>repeat (first | (with_reducible first | exact HB.out | apply below_alloc | apply pw_below_drewN | apply below_drew1 | refine below_set ?_ (IsS89.ge HI0.out)) | exact HB.out));rintro e w7 ⟨rfl,hi,hb,hk⟩;have n0_:=aM (KeepBut.trans (by repeat (first | (with_reducible first | exact HK.out | apply KeepBut.set_ | apply keep_drewN | apply keep_drew | apply keep_alloc) | exact HK.out)) hk (.inl rfl));have n1_:=aM (hb);have n2_:=aM (hi);clear HK;clear HB;clear HI0;have HK:=n0_;have HB:=n1_;have HI0:=n2_;clear n0_ n1_ n2_;(try clear hb);(try clear hb2);(try clear hk);(try clear hi);obtain ⟨ASz8_0,cSz8_0,HGz8,hgz8,HSz8_0⟩:=HI0.out;have hcz8_1:=cellS89_1 HGz8;have hfz8_1:=blk_frozen HGz8 1;clear HGz8 hgz8))
   first | go_end0 | ((try simp only [Exit.inBlock,Exit.then]);refine bodyPost_ret (results_none rfl _ _ _) rfl ?_)
   exact ⟨zF,by repeat (first | (with_reducible first | exact HI0.out | apply IsS89.alloc | apply IsS89.drewN | apply IsS89.drew | apply IsS89.set_1 | apply IsS89.set_2 | apply IsS89.set_3 | apply IsS89.set_4 | apply IsS89.set_5) | exact HI0.out),zC HB.out (IsS89.ge HI0.out),by repeat (first | (with_reducible first | exact HK.out | apply KeepBut.set_ | apply keep_drewN | apply keep_drew | apply keep_alloc) | exact HK.out)⟩
  ·rw [if_neg c5] at H
   have c5b0:(t284.toList==a1.toList)=false:=beq_eq_false_iff_ne.mpr c5
   replace H:=Option.bind_eq_some_iff.mp H
   obtain ⟨⟨t290,t291,t292,t293,t294⟩,A90,H⟩:=H
   have A9:=aM A90
   clear A90
   simp only [Option.some.injEq,Prod.mk.injEq] at H
   obtain ⟨rfl,rfl,rfl,rfl,rfl⟩:=H
   obtain ⟨ASz10_0,cSz10_0,HGz10,hgz10,HSz10_0⟩:=HI0.out
   have hcz10_4:=cellS89_4 HGz10
   clear HGz10 hgz10
   go_enter Try.func84,Try.ntmps84
   go_wp2_with (first | (go_at_call 86;(with_reducible refine (r06_Reader_peek.calls g s0_0 s0_1 s0_2 s0_3 s0_4 s0_5 0 t284 t285 t286 t287 t288 t289 w0 _ ?side1 ?side2 A4.out).mono ?_);(case side1=>repeat (first | (with_reducible first | exact HI0.out | apply IsS89.alloc | apply IsS89.drewN | apply IsS89.drew | apply IsS89.set_1 | apply IsS89.set_2 | apply IsS89.set_3 | apply IsS89.set_4 | apply IsS89.set_5) | exact HI0.out));(case side2=>repeat (first | (with_reducible first | exact HB.out | apply below_alloc | apply pw_below_drewN | apply below_drew1 | refine below_set ?_ (IsS89.ge HI0.out)) | exact HB.out));rintro e w11 ⟨rfl,hi,hb,hk⟩;have n0_:=aM (KeepBut.trans (by repeat (first | (with_reducible first | exact HK.out | apply KeepBut.set_ | apply keep_drewN | apply keep_drew | apply keep_alloc) | exact HK.out)) hk (.inl rfl));have n1_:=aM (hb);have n2_:=aM (hi);clear HK;clear HB;clear HI0;have HK:=n0_;have HB:=n1_;have HI0:=n2_;clear n0_ n1_ n2_;(try clear hb);(try clear hb2);(try clear hk);(try clear hi)) | ((with_reducible refine gate_callee (f:=61) rfl ?_);refine goesL_ (some 25) rfl rfl Try.func61 (by kernel_rfl) rfl #[.pointer (some ⟨g,0,none⟩),.int .i64 2] rfl zA ?_;(with_reducible refine (r06_Reader_fail.calls g s0_0 t285 t286 t287 t288 t289 2 t290 t291 t292 t293 t294 w0 _ ?side1 ?side2 A9.out).mono ?_);(case side1=>repeat (first | (with_reducible first | exact HI0.out | apply IsS89.alloc | apply IsS89.drewN | apply IsS89.drew | apply IsS89.set_1 | apply IsS89.set_2 | apply IsS89.set_3 | apply IsS89.set_4 | apply IsS89.set_5) | exact HI0.out));(case side2=>repeat (first | (with_reducible first | exact HB.out | apply below_alloc | apply pw_below_drewN | apply below_drew1 | refine below_set ?_ (IsS89.ge HI0.out)) | exact HB.out));rintro e w12 ⟨rfl,hi,hb,hk⟩;refine ⟨_,rfl,?_⟩;have n0_:=aM (KeepBut.trans (by repeat (first | (with_reducible first | exact HK.out | apply KeepBut.set_ | apply keep_drewN | apply keep_drew | apply keep_alloc) | exact HK.out)) hk (.inl rfl));have n1_:=aM (hb);have n2_:=aM (hi);clear HK;clear HB;clear HI0;have HK:=n0_;have HB:=n1_;have HI0:=n2_;clear n0_ n1_ n2_;(try clear hb);(try clear hb2);(try clear hk);(try clear hi)))
   first | go_end0 | ((try simp only [Exit.inBlock,Exit.then]);refine bodyPost_ret (results_none rfl _ _ _) rfl ?_)
   exact ⟨zF,by repeat (first | (with_reducible first | exact HI0.out | apply IsS89.alloc | apply IsS89.drewN | apply IsS89.drew | apply IsS89.set_1 | apply IsS89.set_2 | apply IsS89.set_3 | apply IsS89.set_4 | apply IsS89.set_5) | exact HI0.out),zC HB.out (IsS89.ge HI0.out),by repeat (first | (with_reducible first | exact HK.out | apply KeepBut.set_ | apply keep_drewN | apply keep_drew | apply keep_alloc) | exact HK.out)⟩
 ·rw [if_neg c3] at H
  have c3b0:(s0_4==0)=false:=beq_eq_false_iff_ne.mpr c3
  replace H:=Option.bind_eq_some_iff.mp H
  obtain ⟨⟨t295,t296,t297,t298,t299⟩,A130,H⟩:=H
  have A13:=aM A130
  clear A130
  simp only [Option.some.injEq,Prod.mk.injEq] at H
  obtain ⟨rfl,rfl,rfl,rfl,rfl⟩:=H
  obtain ⟨ASz14_0,cSz14_0,HGz14,hgz14,HSz14_0⟩:=HI0.out
  have hcz14_4:=cellS89_4 HGz14
  clear HGz14 hgz14
  go_enter Try.func84,Try.ntmps84
  go_wp2_with (first | ((with_reducible refine gate_callee (f:=61) rfl ?_);refine goesL_ (some 25) rfl rfl Try.func61 (by kernel_rfl) rfl #[.pointer (some ⟨g,0,none⟩),.int .i64 2] rfl zA ?_;(with_reducible refine (r06_Reader_fail.calls g s0_0 s0_1 s0_2 s0_3 s0_4 s0_5 2 t295 t296 t297 t298 t299 w0 _ ?side1 ?side2 A13.out).mono ?_);(case side1=>repeat (first | (with_reducible first | exact HI0.out | apply IsS89.alloc | apply IsS89.drewN | apply IsS89.drew | apply IsS89.set_1 | apply IsS89.set_2 | apply IsS89.set_3 | apply IsS89.set_4 | apply IsS89.set_5) | exact HI0.out));(case side2=>repeat (first | (with_reducible first | exact HB.out | apply below_alloc | apply pw_below_drewN | apply below_drew1 | refine below_set ?_ (IsS89.ge HI0.out)) | exact HB.out));rintro e w15 ⟨rfl,hi,hb,hk⟩;refine ⟨_,rfl,?_⟩;have n0_:=aM (KeepBut.trans (by repeat (first | (with_reducible first | exact HK.out | apply KeepBut.set_ | apply keep_drewN | apply keep_drew | apply keep_alloc) | exact HK.out)) hk (.inl rfl));have n1_:=aM (hb);have n2_:=aM (hi);clear HK;clear HB;clear HI0;have HK:=n0_;have HB:=n1_;have HI0:=n2_;clear n0_ n1_ n2_;(try clear hb);(try clear hb2);(try clear hk);(try clear hi)))
  first | go_end0 | ((try simp only [Exit.inBlock,Exit.then]);refine bodyPost_ret (results_none rfl _ _ _) rfl ?_)
  exact ⟨zF,by repeat (first | (with_reducible first | exact HI0.out | apply IsS89.alloc | apply IsS89.drewN | apply IsS89.drew | apply IsS89.set_1 | apply IsS89.set_2 | apply IsS89.set_3 | apply IsS89.set_4 | apply IsS89.set_5) | exact HI0.out),zC HB.out (IsS89.ge HI0.out),by repeat (first | (with_reducible first | exact HK.out | apply KeepBut.set_ | apply keep_drewN | apply keep_drew | apply keep_alloc) | exact HK.out)⟩
def r06_Reader_name.f (k:Nat) (s0_0:List (S101)) (s0_1:Int) (s0_2:Int) (s0_3:Int) (s0_4:Int) (s0_5:Int):Option (ByteArray × Int × Int × Int × Int × Int):=(r06_Reader_peek.f s0_0 s0_1 s0_2 s0_3 s0_4 s0_5 0).bind fun bt300=>((r02_Name.f k bt300.1).bind fun t306=>(if t306=true then (some (bt300.1,wrap64 (bt300.2.1+1),bt300.2.2.1,bt300.2.2.2.1,bt300.2.2.2.2.1,bt300.2.2.2.2.2)) else ((r06_Reader_fail.f s0_0 bt300.2.1 bt300.2.2.1 bt300.2.2.2.1 bt300.2.2.2.2.1 bt300.2.2.2.2.2 4).bind fun bt307=>(some ((⟨#[]⟩:ByteArray),bt307.1,bt307.2.1,bt307.2.2.1,bt307.2.2.2.1,bt307.2.2.2.2)))))
theorem r06_Reader_name.calls (k:Nat) (g:Nat) (s0_0:List (S101)) (s0_1:Int) (s0_2:Int) (s0_3:Int) (s0_4:Int) (s0_5:Int) (r1:ByteArray) (r2:Int) (r3:Int) (r4:Int) (r5:Int) (r6:Int) (w0 w:World) (hI:IsS89 w0 w g s0_0 s0_1 s0_2 s0_3 s0_4 s0_5) (hB:Below w0.heap.size w0 w) (h:r06_Reader_name.f k s0_0 s0_1 s0_2 s0_3 s0_4 s0_5=some (r1,r2,r3,r4,r5,r6)):
  Calls Try.prog 85 #[.pointer (some ⟨g,0,none⟩)] w fun e w'=>e=.returned (.string r1)∧IsS89 w0 w' g s0_0 r2 r3 r4 r5 r6∧Below w0.heap.size w0 w'∧KeepBut w w' g none:=by
 have HI0:=aM hI
 have HK:=aM (KeepBut.refl w g none)
 clear hI
 have HB:=aM hB
 clear hB
 have H:((r06_Reader_peek.f s0_0 s0_1 s0_2 s0_3 s0_4 s0_5 0).bind fun bt300=>((r02_Name.f k bt300.1).bind fun t306=>(if t306=true then (some (bt300.1,wrap64 (bt300.2.1+1),bt300.2.2.1,bt300.2.2.2.1,bt300.2.2.2.2.1,bt300.2.2.2.2.2)) else ((r06_Reader_fail.f s0_0 bt300.2.1 bt300.2.2.1 bt300.2.2.2.1 bt300.2.2.2.2.1 bt300.2.2.2.2.2 4).bind fun bt307=>(some ((⟨#[]⟩:ByteArray),bt307.1,bt307.2.1,bt307.2.2.1,bt307.2.2.2.1,bt307.2.2.2.2))))))=some (r1,r2,r3,r4,r5,r6):=h
 clear h
 replace H:=Option.bind_eq_some_iff.mp H
 obtain ⟨⟨t300,t301,t302,t303,t304,t305⟩,A20,H⟩:=H
 have A2:=aM A20
 clear A20
 replace H:=Option.bind_eq_some_iff.mp H
 obtain ⟨t306,A30,H⟩:=H
 have A3:=aM A30
 clear A30
 by_cases c4:t306=true
 ·subst c4
  have H1:(some (t300,wrap64 (t301+1),t302,t303,t304,t305))=some (r1,r2,r3,r4,r5,r6):=by rw [if_pos rfl] at H;exact H
  clear H
  have H:=H1
  clear H1
  simp only [Option.some.injEq,Prod.mk.injEq] at H
  obtain ⟨rfl,rfl,rfl,rfl,rfl,rfl⟩:=H
  go_enter Try.func85,Try.ntmps85
  go_wp2_with (first | ((with_reducible refine gate_callee (f:=86) rfl ?_);refine goesL_ (some 5) rfl rfl Try.func86 (by kernel_rfl) rfl #[.pointer (some ⟨g,0,none⟩),.int .i64 0] rfl zA ?_;(with_reducible refine (r06_Reader_peek.calls g s0_0 s0_1 s0_2 s0_3 s0_4 s0_5 0 t300 t301 t302 t303 t304 t305 w0 _ ?side1 ?side2 A2.out).mono ?_);(case side1=>repeat (first | (with_reducible first | exact HI0.out | apply IsS89.alloc | apply IsS89.drewN | apply IsS89.drew | apply IsS89.set_1 | apply IsS89.set_2 | apply IsS89.set_3 | apply IsS89.set_4 | apply IsS89.set_5) | exact HI0.out));(case side2=>repeat (first | (with_reducible first | exact HB.out | apply below_alloc | apply pw_below_drewN | apply below_drew1 | refine below_set ?_ (IsS89.ge HI0.out)) | exact HB.out));rintro e w5 ⟨rfl,hi,hb,hk⟩;refine ⟨_,rfl,?_⟩;have n0_:=aM (KeepBut.trans (by repeat (first | (with_reducible first | exact HK.out | apply KeepBut.set_ | apply keep_drewN | apply keep_drew | apply keep_alloc) | exact HK.out)) hk (.inl rfl));have n1_:=aM (hb);have n2_:=aM (hi);clear HK;clear HB;clear HI0;have HK:=n0_;have HB:=n1_;have HI0:=n2_;clear n0_ n1_ n2_;(try clear hb);(try clear hb2);(try clear hk);(try clear hi)) | ((with_reducible refine gate_callee (f:=24) rfl ?_);refine goesL_ (some 7) rfl rfl Try.func24 (by kernel_rfl) rfl #[.string t300] rfl zA ?_;(with_reducible refine (r02_Name.calls k t300 true _ A3.out).mono ?_);rintro e w' ⟨rfl,⟨nd,rfl⟩⟩;refine ⟨_,rfl,?_⟩;(try (rw [drewN_self w5];generalize hq_:World.drewN w5 _=w5;have n0_:Aside0 (IsS89 w0 w5 g s0_0 t301 t302 t303 t304 t305):=⟨by rw [← hq_];exact (by repeat (first | (with_reducible first | exact HI0.out | apply IsS89.alloc | apply IsS89.drewN | apply IsS89.drew | apply IsS89.set_1 | apply IsS89.set_2 | apply IsS89.set_3 | apply IsS89.set_4 | apply IsS89.set_5) | exact HI0.out))⟩;have n1_:Aside0 (KeepBut w w5 g none):=⟨by rw [← hq_];exact (by repeat (first | (with_reducible first | exact HK.out | apply KeepBut.set_ | apply keep_drewN | apply keep_drew | apply keep_alloc) | exact HK.out))⟩;have n2_:Aside0 (Below w0.heap.size w0 w5):=⟨by rw [← hq_];exact (zC HB.out (IsS89.ge HI0.out))⟩;clear HI0 HK HB hq_;have HI0:=n0_;have HK:=n1_;have HB:=n2_;clear n0_ n1_ n2_));obtain ⟨ASz6_0,cSz6_0,HGz6,hgz6,HSz6_0⟩:=HI0.out;have hcz6_1:=cellS89_1 HGz6;have hfz6_1:=blk_frozen HGz6 1;clear HGz6 hgz6))
  go_ret
  exact ⟨zF,by repeat (first | (with_reducible first | exact HI0.out | apply IsS89.alloc | apply IsS89.drewN | apply IsS89.drew | apply IsS89.set_1 | apply IsS89.set_2 | apply IsS89.set_3 | apply IsS89.set_4 | apply IsS89.set_5) | exact HI0.out),zC HB.out (IsS89.ge HI0.out),by repeat (first | (with_reducible first | exact HK.out | apply KeepBut.set_ | apply keep_drewN | apply keep_drew | apply keep_alloc) | exact HK.out)⟩
 ·replace c4:=Bool.eq_false_iff.mpr c4
  subst c4
  have H1:((r06_Reader_fail.f s0_0 t301 t302 t303 t304 t305 4).bind fun bt307=>(some ((⟨#[]⟩:ByteArray),bt307.1,bt307.2.1,bt307.2.2.1,bt307.2.2.2.1,bt307.2.2.2.2)))=some (r1,r2,r3,r4,r5,r6):=by rw [if_neg (show ¬ (false=true) by decide)] at H;exact H
  clear H
  have H:=H1
  clear H1
  replace H:=Option.bind_eq_some_iff.mp H
  obtain ⟨⟨t307,t308,t309,t310,t311⟩,A70,H⟩:=H
  have A7:=aM A70
  clear A70
  simp only [Option.some.injEq,Prod.mk.injEq] at H
  obtain ⟨rfl,rfl,rfl,rfl,rfl,rfl⟩:=H
  go_enter Try.func85,Try.ntmps85
  go_wp2_with (first | ((with_reducible refine gate_callee (f:=86) rfl ?_);refine goesL_ (some 5) rfl rfl Try.func86 (by kernel_rfl) rfl #[.pointer (some ⟨g,0,none⟩),.int .i64 0] rfl zA ?_;(with_reducible refine (r06_Reader_peek.calls g s0_0 s0_1 s0_2 s0_3 s0_4 s0_5 0 t300 t301 t302 t303 t304 t305 w0 _ ?side1 ?side2 A2.out).mono ?_);(case side1=>repeat (first | (with_reducible first | exact HI0.out | apply IsS89.alloc | apply IsS89.drewN | apply IsS89.drew | apply IsS89.set_1 | apply IsS89.set_2 | apply IsS89.set_3 | apply IsS89.set_4 | apply IsS89.set_5) | exact HI0.out));(case side2=>repeat (first | (with_reducible first | exact HB.out | apply below_alloc | apply pw_below_drewN | apply below_drew1 | refine below_set ?_ (IsS89.ge HI0.out)) | exact HB.out));rintro e w8 ⟨rfl,hi,hb,hk⟩;refine ⟨_,rfl,?_⟩;have n0_:=aM (KeepBut.trans (by repeat (first | (with_reducible first | exact HK.out | apply KeepBut.set_ | apply keep_drewN | apply keep_drew | apply keep_alloc) | exact HK.out)) hk (.inl rfl));have n1_:=aM (hb);have n2_:=aM (hi);clear HK;clear HB;clear HI0;have HK:=n0_;have HB:=n1_;have HI0:=n2_;clear n0_ n1_ n2_;(try clear hb);(try clear hb2);(try clear hk);(try clear hi)) | ((with_reducible refine gate_callee (f:=24) rfl ?_);refine goesL_ (some 7) rfl rfl Try.func24 (by kernel_rfl) rfl #[.string t300] rfl zA ?_;(with_reducible refine (r02_Name.calls k t300 false _ A3.out).mono ?_);rintro e w' ⟨rfl,⟨nd,rfl⟩⟩;refine ⟨_,rfl,?_⟩) | ((with_reducible refine gate_callee (f:=61) rfl ?_);refine goesL_ (some 10) rfl rfl Try.func61 (by kernel_rfl) rfl #[.pointer (some ⟨g,0,none⟩),.int .i64 4] rfl zA ?_;(with_reducible refine (r06_Reader_fail.calls g s0_0 t301 t302 t303 t304 t305 4 t307 t308 t309 t310 t311 w0 _ ?side1 ?side2 A7.out).mono ?_);(case side1=>repeat (first | (with_reducible first | exact HI0.out | apply IsS89.alloc | apply IsS89.drewN | apply IsS89.drew | apply IsS89.set_1 | apply IsS89.set_2 | apply IsS89.set_3 | apply IsS89.set_4 | apply IsS89.set_5) | exact HI0.out));(case side2=>repeat (first | (with_reducible first | exact HB.out | apply below_alloc | apply pw_below_drewN | apply below_drew1 | refine below_set ?_ (IsS89.ge HI0.out)) | exact HB.out));rintro e w9 ⟨rfl,hi,hb,hk⟩;refine ⟨_,rfl,?_⟩;have n0_:=aM (KeepBut.trans (by repeat (first | (with_reducible first | exact HK.out | apply KeepBut.set_ | apply keep_drewN | apply keep_drew | apply keep_alloc) | exact HK.out)) hk (.inl rfl));have n1_:=aM (hb);have n2_:=aM (hi);clear HK;clear HB;clear HI0;have HK:=n0_;have HB:=n1_;have HI0:=n2_;clear n0_ n1_ n2_;(try clear hb);(try clear hb2);(try clear hk);(try clear hi)))
  go_ret
  exact ⟨zF,by repeat (first | (with_reducible first | exact HI0.out | apply IsS89.alloc | apply IsS89.drewN | apply IsS89.drew | apply IsS89.set_1 | apply IsS89.set_2 | apply IsS89.set_3 | apply IsS89.set_4 | apply IsS89.set_5) | exact HI0.out),zC HB.out (IsS89.ge HI0.out),by repeat (first | (with_reducible first | exact HK.out | apply KeepBut.set_ | apply keep_drewN | apply keep_drew | apply keep_alloc) | exact HK.out)⟩
def r06_kind.f (a0:ByteArray):Option (Int):=if a0.toList=([110]:List UInt8) then (some 0) else (if a0.toList=([105]:List UInt8) then (some 1) else (if a0.toList=([112]:List UInt8) then (some 2) else (some (-1))))
theorem r06_kind.calls (a0:ByteArray) (r:Int) (w:World) (h:r06_kind.f a0=some r):
  Calls Try.prog 87 #[.string a0] w fun e w'=>e=.returned (.int .i64 r)∧Drawn0 w w':=by
 have H:(if a0.toList=([110]:List UInt8) then (some 0) else (if a0.toList=([105]:List UInt8) then (some 1) else (if a0.toList=([112]:List UInt8) then (some 2) else (some (-1)))))=some r:=h
 clear h
 by_cases c2:a0.toList=([110]:List UInt8)
 ·rw [if_pos c2] at H
  have c2b0:(a0.toList==([110]:List UInt8))=true:=beq_iff_eq.mpr c2
  clear c2
  obtain rfl:=Option.some.inj H
  go_enter Try.func87,Try.ntmps87
  go_wp2
  go_ret
  exact ⟨by first | rfl | (simp;done) | (simp [*];done),zQ⟩
 ·rw [if_neg c2] at H
  have c2b0:(a0.toList==([110]:List UInt8))=false:=beq_eq_false_iff_ne.mpr c2
  by_cases c3:a0.toList=([105]:List UInt8)
  ·rw [if_pos c3] at H
   have c3b0:(a0.toList==([105]:List UInt8))=true:=beq_iff_eq.mpr c3
   clear c3
   obtain rfl:=Option.some.inj H
   go_enter Try.func87,Try.ntmps87
   go_wp2
   go_ret
   exact ⟨by first | rfl | (simp;done) | (simp [*];done),zQ⟩
  ·rw [if_neg c3] at H
   have c3b0:(a0.toList==([105]:List UInt8))=false:=beq_eq_false_iff_ne.mpr c3
   by_cases c4:a0.toList=([112]:List UInt8)
   ·rw [if_pos c4] at H
    have c4b0:(a0.toList==([112]:List UInt8))=true:=beq_iff_eq.mpr c4
    clear c4
    obtain rfl:=Option.some.inj H
    go_enter Try.func87,Try.ntmps87
    go_wp2
    go_ret
    exact ⟨by first | rfl | (simp;done) | (simp [*];done),zQ⟩
   ·rw [if_neg c4] at H
    have c4b0:(a0.toList==([112]:List UInt8))=false:=beq_eq_false_iff_ne.mpr c4
    obtain rfl:=Option.some.inj H
    go_enter Try.func87,Try.ntmps87
    go_wp2
    go_ret
    exact ⟨by first | rfl | (simp;done) | (simp [*];done),zQ⟩
mutual
def r01_digits.j0:Nat→ByteArray→Bool→Option (Bool)
 | 0,_,_=>none
 | k+1,x0,x15=>if x15=true then (some false) else (r01_digits.l0 k x0 0)
def r01_digits.l0:Nat→ByteArray→Int→Option (Bool)
 | 0,_,_=>none
 | k+1,x0,x3=>if x3<(x0.size:Int) then (if 0≤x3 then (if (bt x0 x3)<48 then (some false) else (if (bt x0 x3)>57 then (some false) else (r01_digits.l0 k x0 (wrap64 (x3+1))))) else (none)) else (some true)
end
def r01_digits.f (k:Nat) (a0:ByteArray):Option (Bool):=if a0.toList=([]:List UInt8) then (r01_digits.j0 k a0 true) else (if (a0.size:Int)>1 then (if 0<(a0.size:Int) then (r01_digits.j0 k a0 ((bt a0 0)==48)) else (none)) else (r01_digits.j0 k a0 false))
theorem r01_digits.calls (k:Nat) (a0:ByteArray) (r:Bool) (w:World) (h:r01_digits.f k a0=some r):
  Calls Try.prog 122 #[.string a0] w fun e w'=>e=.returned (.bool r)∧Drawn0 w w':=by
 have H:(if a0.toList=([]:List UInt8) then (r01_digits.j0 k a0 true) else (if (a0.size:Int)>1 then (if 0<(a0.size:Int) then (r01_digits.j0 k a0 ((bt a0 0)==48)) else (none)) else (r01_digits.j0 k a0 false)))=some r:=h
 clear h
 have HC2:=aM H
 clear H
 go_enter Try.func122,Try.ntmps122
 go_upto_region 1 with (fail)
 go_cut [15] (fun v15 wc=>∃ (kq:Nat) (x15_1:Bool),v15=.bool x15_1∧Aside0 (r01_digits.j0 kq a0 x15_1=some r)∧Aside0 (kq≤k)∧Drawn0 w wc)
 case first=>
  have H:=HC2.out
  clear HC2
  by_cases c3:a0.toList=([]:List UInt8)
  ·rw [if_pos c3] at H
   have c3b0:(a0.toList==([]:List UInt8))=true:=beq_iff_eq.mpr c3
   clear c3
   (first | rw [c3b0] | (simp only [i64_w,i32_w];rw [c3b0]) | skip)
   have H':=aM H
   clear H
   go_wp2
   go_meet
   case rel=>exact ⟨_,(true),(by first | rfl | (simp;done) | (simp [*];done)),H',⟨by first | omega | exact Nat.le_refl _⟩,zQ⟩
  ·rw [if_neg c3] at H
   have c3b0:(a0.toList==([]:List UInt8))=false:=beq_eq_false_iff_ne.mpr c3
   (first | rw [c3b0] | (simp only [i64_w,i32_w];rw [c3b0]) | skip)
   by_cases c4:(a0.size:Int)>1
   ·rw [if_pos c4] at H
    have c4b0:decide (1<(a0.size:Int))=true:=decide_eq_true c4
    clear c4
    by_cases c5:0<(a0.size:Int)
    ·rw [if_pos c5] at H
     have c5b0:decide (0<(a0.size:Int))=true:=decide_eq_true c5
     clear c5
     have H':=aM H
     clear H
     have q6:0<a0.size:=(by have:(0:Int)<(a0.size:Int):=of_decide_eq_true zS;omega)
     have hx6:∀ h:0<a0.size,((a0[0]'h).toNat:Int)=bt a0 0:=bt_at a0 0
     replace q6:=eq_true q6
     go_wp2
     go_meet
     case rel=>exact ⟨_,(((bt a0 0)==48)),(by first | rfl | (simp;done) | (simp [*];done)),H',⟨by first | omega | exact Nat.le_refl _⟩,zQ⟩
    ·rw [if_neg c5] at H
     exact absurd H (by simp)
   ·rw [if_neg c4] at H
    have c4b0:decide (1<(a0.size:Int))=false:=decide_eq_false c4
    clear c4
    have H':=aM H
    clear H
    go_wp2
    go_meet
    case rel=>exact ⟨_,(false),(by first | rfl | (simp;done) | (simp [*];done)),H',⟨by first | omega | exact Nat.le_refl _⟩,zQ⟩
 case rest=>
  clear HC2
  obtain ⟨kq,x15_1,rfl,HA,HJ1,⟨mc1,rfl⟩⟩:=hcut
  cases kq with
  | zero=>exact absurd HA.out (by simp [r01_digits.j0])
  | succ kj1=>
   have H:=HA.out
   clear HA
   simp only [r01_digits.j0] at H
   by_cases c7:x15_1=true
   ·subst c7
    have H1:(some false)=some r:=by rw [if_pos rfl] at H;exact H
    clear H
    have H:=H1
    clear H1
    obtain rfl:=Option.some.inj H
    go_wp2
    go_ret
    exact ⟨by first | rfl | (simp;done) | (simp [*];done),zQ⟩
   ·replace c7:=Bool.eq_false_iff.mpr c7
    subst c7
    have H1:(r01_digits.l0 kj1 a0 0)=some r:=by rw [if_neg (show ¬ (false=true) by decide)] at H;exact H
    clear H
    have H:=H1
    clear H1
    have H':=aM H
    clear H
    go_wp2
    go_loopg [3] kj1 (fun kq v3 w'=>∃ (x3_2:Int),v3=.int .i64 x3_2∧Aside0 (r01_digits.l0 kq a0 x3_2=some r)∧Aside0 (kq≤kj1)∧Drawn0 w w')
    case atStart=>exact ⟨(0),(by first | rfl | (simp;done) | (simp [*];done)),H',⟨Nat.le_refl _⟩,zQ⟩
    case round=>
     clear H'
     obtain ⟨x3_2,rfl,HA,HK2,⟨m2,rfl⟩⟩:=hrel
     cases gk with
     | zero=>exact absurd HA.out (by simp [r01_digits.l0])
     | succ k2=>
      have H:=HA.out
      clear HA
      simp only [r01_digits.l0] at H
      by_cases c8:x3_2<(a0.size:Int)
      ·rw [if_pos c8] at H
       have c8b0:decide (x3_2<(a0.size:Int))=true:=decide_eq_true c8
       clear c8
       by_cases c9:0≤x3_2
       ·rw [if_pos c9] at H
        have c9b0:decide (0≤x3_2)=true:=decide_eq_true c9
        clear c9
        by_cases c11:(bt a0 x3_2)<48
        ·rw [if_pos c11] at H
         have c11b0:decide ((bt a0 x3_2)<48)=true:=decide_eq_true c11
         clear c11
         obtain rfl:=Option.some.inj H
         have p10:0≤(x3_2:Int):=of_decide_eq_true zS
         have q10:x3_2<(a0.size:Int):=of_decide_eq_true zS
         have hx10:=bt_at a0 x3_2
         replace p10:=eq_true p10
         replace q10:=eq_true q10
         go_wp2
         go_ret
         exact ⟨by first | rfl | (simp;done) | (simp [*];done),zQ⟩
        ·rw [if_neg c11] at H
         have c11b0:decide ((bt a0 x3_2)<48)=false:=decide_eq_false c11
         clear c11
         by_cases c13:(bt a0 x3_2)>57
         ·rw [if_pos c13] at H
          have c13b0:decide (57<(bt a0 x3_2))=true:=decide_eq_true c13
          clear c13
          obtain rfl:=Option.some.inj H
          have p10:0≤(x3_2:Int):=of_decide_eq_true zS
          have q10:x3_2<(a0.size:Int):=of_decide_eq_true zS
          have hx10:=bt_at a0 x3_2
          replace p10:=eq_true p10
          replace q10:=eq_true q10
          have p12:0≤(x3_2:Int):=of_decide_eq_true zS
          have q12:x3_2<(a0.size:Int):=of_decide_eq_true zS
          replace p12:=eq_true p12
          replace q12:=eq_true q12
          go_wp2
          go_ret
          exact ⟨by first | rfl | (simp;done) | (simp [*];done),zQ⟩
         ·rw [if_neg c13] at H
          have c13b0:decide (57<(bt a0 x3_2))=false:=decide_eq_false c13
          clear c13
          have H':=aM H
          clear H
          have p10:0≤(x3_2:Int):=of_decide_eq_true zS
          have q10:x3_2<(a0.size:Int):=of_decide_eq_true zS
          have hx10:=bt_at a0 x3_2
          replace p10:=eq_true p10
          replace q10:=eq_true q10
          have p12:0≤(x3_2:Int):=of_decide_eq_true zS
          have q12:x3_2<(a0.size:Int):=of_decide_eq_true zS
          replace p12:=eq_true p12
          replace q12:=eq_true q12
          go_wp2
          go_roundg k2
          case measure=>have:=HJ1.out;have:=HK2.out;omega
          case rel=>exact ⟨(wrap64 (x3_2+1)),(by first | rfl | (simp;done) | (simp [*];done)),H',⟨by have:=HJ1.out;have:=HK2.out;omega⟩,zQ⟩
       ·rw [if_neg c9] at H
        exact absurd H (by simp)
      ·rw [if_neg c8] at H
       have c8b0:decide (x3_2<(a0.size:Int))=false:=decide_eq_false c8
       clear c8
       obtain rfl:=Option.some.inj H
       go_wp2
       go_ret
       exact ⟨by first | rfl | (simp;done) | (simp [*];done),zQ⟩
def r01_above.l0:Nat→ByteArray→ByteArray→Int→Option (Bool)
 | 0,_,_,_=>none
 | k+1,x0,x1,x5=>if x5<(x0.size:Int) then (if 0≤x5 then (if x5<(x1.size:Int) then (if (bt x0 x5)=(bt x1 x5) then (r01_above.l0 k x0 x1 (wrap64 (x5+1))) else (some (decide ((bt x0 x5)>(bt x1 x5))))) else (none)) else (none)) else (some false)
def r01_above.f (k:Nat) (a0:ByteArray) (a1:ByteArray):Option (Bool):=r01_above.l0 k a0 a1 0
theorem r01_above.calls (k:Nat) (a0:ByteArray) (a1:ByteArray) (r:Bool) (w:World) (h:r01_above.f k a0 a1=some r):
  Calls Try.prog 124 #[.string a0,.string a1] w fun e w'=>e=.returned (.bool r)∧Drawn0 w w':=by
 have H:(r01_above.l0 k a0 a1 0)=some r:=h
 clear h
 have H':=aM H
 clear H
 go_enter Try.func124,Try.ntmps124
 go_wp2
 repeat (go_quiet (fail);try go_wp2)
 go_loopg [5] k (fun kq v5 w'=>∃ (x5_1:Int),v5=.int .i64 x5_1∧Aside0 (r01_above.l0 kq a0 a1 x5_1=some r)∧Aside0 (kq≤k)∧Drawn0 w w')
 case atStart=>exact ⟨(0),(by first | rfl | (simp;done) | (simp [*];done)),H',⟨Nat.le_refl _⟩,zQ⟩
 case round=>
  clear H'
  obtain ⟨x5_1,rfl,HA,HK1,⟨m1,rfl⟩⟩:=hrel
  cases gk with
  | zero=>exact absurd HA.out (by simp [r01_above.l0])
  | succ k1=>
   have H:=HA.out
   clear HA
   simp only [r01_above.l0] at H
   by_cases c3:x5_1<(a0.size:Int)
   ·rw [if_pos c3] at H
    have c3b0:decide (x5_1<(a0.size:Int))=true:=decide_eq_true c3
    clear c3
    by_cases c4:0≤x5_1
    ·rw [if_pos c4] at H
     have c4b0:decide (0≤x5_1)=true:=decide_eq_true c4
     clear c4
     by_cases c6:x5_1<(a1.size:Int)
     ·rw [if_pos c6] at H
      have c6b0:decide (x5_1<(a1.size:Int))=true:=decide_eq_true c6
      clear c6
      by_cases c8:(bt a0 x5_1)=(bt a1 x5_1)
      ·rw [if_pos c8] at H
       have c8b1:((bt a0 x5_1) !=(bt a1 x5_1))=false:=bne_eq_false_iff_eq.mpr c8
       clear c8
       have H':=aM H
       clear H
       have p5:0≤(x5_1:Int):=of_decide_eq_true zS
       have q5:x5_1<(a0.size:Int):=of_decide_eq_true zS
       have hx5:=bt_at a0 x5_1
       replace p5:=eq_true p5
       replace q5:=eq_true q5
       have p7:0≤(x5_1:Int):=of_decide_eq_true zS
       have q7:x5_1<(a1.size:Int):=of_decide_eq_true zS
       have hx7:=bt_at a1 x5_1
       replace p7:=eq_true p7
       replace q7:=eq_true q7
       go_wp2
       repeat (go_quiet (fail);try go_wp2)
       go_roundg k1
       case measure=>have:=HK1.out;omega
       case rel=>exact ⟨(wrap64 (x5_1+1)),(by first | rfl | (simp;done) | (simp [*];done)),H',⟨by have:=HK1.out;omega⟩,zQ⟩
      ·rw [if_neg c8] at H
       have c8b1:((bt a0 x5_1) !=(bt a1 x5_1))=true:=bne_iff_ne.mpr c8
       obtain rfl:=Option.some.inj H
       have p5:0≤(x5_1:Int):=of_decide_eq_true zS
       have q5:x5_1<(a0.size:Int):=of_decide_eq_true zS
       have hx5:=bt_at a0 x5_1
       replace p5:=eq_true p5
       replace q5:=eq_true q5
       have p7:0≤(x5_1:Int):=of_decide_eq_true zS
       have q7:x5_1<(a1.size:Int):=of_decide_eq_true zS
       have hx7:=bt_at a1 x5_1
       replace p7:=eq_true p7
       replace q7:=eq_true q7
       have p9:0≤(x5_1:Int):=of_decide_eq_true zS
       have q9:x5_1<(a0.size:Int):=of_decide_eq_true zS
       replace p9:=eq_true p9
       replace q9:=eq_true q9
       have p10:0≤(x5_1:Int):=of_decide_eq_true zS
       have q10:x5_1<(a1.size:Int):=of_decide_eq_true zS
       replace p10:=eq_true p10
       replace q10:=eq_true q10
       go_wp2
       repeat (go_quiet (fail);try go_wp2)
       go_ret
       exact ⟨by first | rfl | (simp;done) | (simp [*];done),zQ⟩
     ·rw [if_neg c6] at H
      exact absurd H (by simp)
    ·rw [if_neg c4] at H
     exact absurd H (by simp)
   ·rw [if_neg c3] at H
    have c3b0:decide (x5_1<(a0.size:Int))=false:=decide_eq_false c3
    clear c3
    obtain rfl:=Option.some.inj H
    go_wp2
    repeat (go_quiet (fail);try go_wp2)
    go_ret
    exact ⟨by first | rfl | (simp;done) | (simp [*];done),zQ⟩
def r01_fits.f (k:Nat) (a0:ByteArray) (a1:ByteArray):Option (Bool):=if (a0.size:Int)=(a1.size:Int) then ((r01_above.f k a0 a1).bind fun t312=>(some (!t312))) else (some (decide ((a0.size:Int)<(a1.size:Int))))
theorem r01_fits.calls (k:Nat) (a0:ByteArray) (a1:ByteArray) (r:Bool) (w:World) (h:r01_fits.f k a0 a1=some r):
  Calls Try.prog 123 #[.string a0,.string a1] w fun e w'=>e=.returned (.bool r)∧Drawn0 w w':=by
 have H:(if (a0.size:Int)=(a1.size:Int) then ((r01_above.f k a0 a1).bind fun t312=>(some (!t312))) else (some (decide ((a0.size:Int)<(a1.size:Int)))))=some r:=h
 clear h
 by_cases c3:(a0.size:Int)=(a1.size:Int)
 ·rw [if_pos c3] at H
  have c3b1:((a0.size:Int) !=(a1.size:Int))=false:=bne_eq_false_iff_eq.mpr c3
  clear c3
  replace H:=Option.bind_eq_some_iff.mp H
  obtain ⟨t312,A40,H⟩:=H
  have A4:=aM A40
  clear A40
  obtain rfl:=Option.some.inj H
  go_enter Try.func123,Try.ntmps123
  go_wp2_with (first | ((with_reducible refine gate_callee (f:=124) rfl ?_);refine goesL_ (some 17) rfl rfl Try.func124 (by kernel_rfl) rfl #[.string a0,.string a1] rfl zA ?_;(with_reducible refine (r01_above.calls k a0 a1 t312 _ A4.out).mono ?_);rintro e w' ⟨rfl,⟨nd,rfl⟩⟩;refine ⟨_,rfl,?_⟩))
  go_ret
  exact ⟨by first | rfl | (simp;done) | (simp [*];done),zQ⟩
 ·rw [if_neg c3] at H
  have c3b1:((a0.size:Int) !=(a1.size:Int))=true:=bne_iff_ne.mpr c3
  obtain rfl:=Option.some.inj H
  go_enter Try.func123,Try.ntmps123
  go_wp2
  go_ret
  exact ⟨by first | rfl | (simp;done) | (simp [*];done),zQ⟩
end Go.Proofs.Ytkjdblbgmomieaa.PSh
end
