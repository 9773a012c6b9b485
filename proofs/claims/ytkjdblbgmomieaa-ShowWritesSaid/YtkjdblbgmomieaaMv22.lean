import Derived.Test.YtkjdblbgmomieaaMv2
import Derived.Test.YtkjdblbgmomieaaMv21
import Derived.Test.YtkjdblbgmomieaaMv3
section
namespace Go.Proofs.Ytkjdblbgmomieaa.PSh
set_option maxHeartbeats 8000000
set_option maxRecDepth 100000
open Go.RowKit Go.Proofs.YtkjdblbgmomieaaW.PrintWords Go.Proofs.YtkjdblbgmomieaaW.PrintLast Go.Proofs.YtkjdblbgmomieaaW.PrintMore Go.Proofs.Ytkjdblbgmomieaa.Zip
attribute [local go_sem] max2_int min2_int max_two min_two max_three min_three max_four min_four   -- for this text's walks alone
set_option linter.unusedVariables false
set_option linter.unusedSimpArgs false
def show_line.f (l0:List ByteArray):Option (ByteArray):=(strings_Join.f l0 (⟨#[32]⟩:ByteArray)).bind fun t172=>(some t172)
theorem show_line.calls (A0:Option Addr) (c0:Nat) (l0:List ByteArray) (r:ByteArray) (w:World) (hr0:Kd.C Kd.string w A0 l0.length l0) (hc0:l0.length≤c0) (h:show_line.f l0=some r):
  Calls Try.prog 32 #[.slice A0 l0.length c0] w fun e w'=>e=.returned (.string r)∧Below w.heap.size w w':=by
 have HR0:=aM hr0
 have HC0:=aM hc0
 clear hr0 hc0
 have HB:=aM (Below.refl w.heap.size w)
 have H:((strings_Join.f l0 (⟨#[32]⟩:ByteArray)).bind fun t172=>(some t172))=some r:=h
 clear h
 replace H:=Option.bind_eq_some_iff.mp H
 obtain ⟨t172,A20,H⟩:=H
 have A2:=aM A20
 clear A20
 obtain rfl:=Option.some.inj H
 go_enter Try.func32,Try.ntmps32
 go_wp2_with (first | ((with_reducible refine gate_callee (f:=66) rfl ?_);refine goesL_ (some 4) rfl rfl Try.func66 (by kernel_rfl) rfl #[.slice A0 l0.length c0,.string (⟨#[32]⟩:ByteArray)] rfl zA ?_;(with_reducible refine (strings_Join.calls _ _ l0 (⟨#[32]⟩:ByteArray) t172 _ ?side1 ?side2 A2.out).mono ?_);(case side1=>repeat (first | exact HR0.out | (with_reducible refine Kd.C_alloc ?_ _) | (with_reducible refine Kd.C_drewN ?_ _) | (with_reducible refine Kd.C_drew ?_)));(case side2=>exact HC0.out);rintro e w3 ⟨rfl,hb⟩;refine ⟨_,rfl,?_⟩;have n0_:=aM (below_step (zB HB.out) hb);clear HB;have HB:=n0_;clear n0_;(try clear hb);(try clear hb2);(try clear hk);(try clear hi)))
 go_ret
 exact ⟨zF,zB HB.out⟩
end Go.Proofs.Ytkjdblbgmomieaa.PSh
end
