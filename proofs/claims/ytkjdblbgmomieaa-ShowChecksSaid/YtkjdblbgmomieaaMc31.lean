import Derived.Test.YtkjdblbgmomieaaMc29
import Derived.Test.YtkjdblbgmomieaaMc30
import Derived.KernelRfl
import Derived.Test.YtkjdblbgmomieaaMc21
import Derived.Test.YtkjdblbgmomieaaMc27
import Derived.Test.YtkjdblbgmomieaaMc28
import Derived.Test.YtkjdblbgmomieaaRows
import Derived.WalkKit
import Derived.ProofKit
import Derived.OpenShut
import Derived.ShutString
import Derived.ChangeOld
import Derived.Below
import Derived.SizedLaws
-- from YtkjdblbgmomieaaSaidShowChecks
section
namespace Go.Proofs.Ytkjdblbgmomieaa.ShowChecksSaid
open Go.RowKit Go.Proofs.Ytkjdblbgmomieaa.PSh Go.Proofs.Ytkjdblbgmomieaa.Open Go.Proofs.YtkjdblbgmomieaaW.PrintWords Go.Proofs.YtkjdblbgmomieaaW.PrintLast
set_option linter.unusedVariables false
def good39 (x:S39):Prop:=((Lit.int .i64 x.f0).wf=true)∧((Lit.int .i64 x.f1).wf=true)∧((Lit.int .i64 x.f2).wf=true)∧((Lit.int .i64 x.f3).wf=true)∧(x.f4.length * 8≤140737488351232∧∀ x_∈x.f4,(Lit.int .i64 x_).wf=true)∧(x.f5.length * 8≤140737488351232∧∀ x_∈x.f5,(Lit.int .i64 x_).wf=true)∧(x.f6.size≤140737488351232)∧((Lit.int .i64 x.f7).wf=true)
theorem open39:Opens Try.prog k39 39 good39:=Opens.imp (opens_struct (g:=fun p=>⟨p.1,p.2.1,p.2.2.1,p.2.2.2.1,p.2.2.2.2.1,p.2.2.2.2.2.1,p.2.2.2.2.2.2.1,p.2.2.2.2.2.2.2⟩) Try.underlying39 (by kernel_rfl) (opensF_cons (off:=0) (off':=1) (opens_int Try.underlying3) (by kernel_rfl) (by kernel_rfl) (opensF_cons (off:=1) (off':=2) (opens_int Try.underlying3) (by kernel_rfl) (by kernel_rfl) (opensF_cons (off:=2) (off':=3) (opens_int Try.underlying2) (by kernel_rfl) (by kernel_rfl) (opensF_cons (off:=3) (off':=4) (opens_int Try.underlying3) (by kernel_rfl) (by kernel_rfl) (opensF_cons (off:=4) (off':=5) (opens_slice (e':=3) (B:=8) Try.underlying31 (opens_int Try.underlying3) (by kernel_rfl) (by kernel_rfl)) (by kernel_rfl) (by kernel_rfl) (opensF_cons (off:=5) (off':=6) (opens_slice (e':=3) (B:=8) Try.underlying31 (opens_int Try.underlying3) (by kernel_rfl) (by kernel_rfl)) (by kernel_rfl) (by kernel_rfl) (opensF_cons (off:=6) (off':=7) (opens_string Try.underlying9) (by kernel_rfl) (by kernel_rfl) (opensF_one (off:=7) (opens_int Try.underlying3) (by kernel_rfl))))))))) (fun _=>rfl)) (fun b h=>h)
def good34 (x:S34):Prop:=(x.f0.size≤140737488351232)∧(x.f1.length * 8≤140737488351232∧∀ x_∈x.f1,(Lit.int .i64 x_).wf=true)∧((Lit.int .i64 x.f2).wf=true)∧(x.f3.length * 24≤140737488351232∧∀ x_∈x.f3,x_.length * 104≤140737488351232∧∀ x__∈x_,good39 x__)∧((Lit.int .i64 x.f4).wf=true)
theorem open34:Opens Try.prog k34 34 good34:=Opens.imp (opens_struct (g:=fun p=>⟨p.1,p.2.1,p.2.2.1,p.2.2.2.1,p.2.2.2.2⟩) Try.underlying34 (by kernel_rfl) (opensF_cons (off:=0) (off':=1) (opens_string Try.underlying9) (by kernel_rfl) (by kernel_rfl) (opensF_cons (off:=1) (off':=2) (opens_slice (e':=3) (B:=8) Try.underlying31 (opens_int Try.underlying3) (by kernel_rfl) (by kernel_rfl)) (by kernel_rfl) (by kernel_rfl) (opensF_cons (off:=2) (off':=3) (opens_int Try.underlying3) (by kernel_rfl) (by kernel_rfl) (opensF_cons (off:=3) (off':=4) (opens_slice (e':=36) (B:=24) Try.underlying32 (opens_slice (e':=39) (B:=104) Try.underlying36 open39 (by kernel_rfl) (by kernel_rfl)) (by kernel_rfl) (by kernel_rfl)) (by kernel_rfl) (by kernel_rfl) (opensF_one (off:=4) (opens_int Try.underlying3) (by kernel_rfl)))))) (fun _=>rfl)) (fun b h=>h)
def good24 (x:S24):Prop:=(x.f0.length * 80≤140737488351232∧∀ x_∈x.f0,good34 x_)
theorem open24:Opens Try.prog k24 24 good24:=Opens.imp (opens_struct (g:=fun p=>⟨p⟩) Try.underlying24 (by kernel_rfl) (opensF_one (off:=0) (opens_slice (e':=34) (B:=80) Try.underlying22 open34 (by kernel_rfl) (by kernel_rfl)) (by kernel_rfl)) (fun _=>rfl)) (fun b h=>h)
def ShowChecks.Good:Prop:=∀ (a0:S39) (a1:S24),(good39 a0)→(good24 a1)→∃ k,l07_ShowChecks.f k a0.f0 a0.f1 a0.f2 a0.f3 a0.f4 a0.f5 a0.f6 a0.f7 a1.f0=some true
end Go.Proofs.Ytkjdblbgmomieaa.ShowChecksSaid
end
-- from YtkjdblbgmomieaaShChk
section
namespace Go.Proofs.Ytkjdblbgmomieaa.PSh
open Go.RowKit Go.Proofs.YtkjdblbgmomieaaW.PrintWords Go.Proofs.YtkjdblbgmomieaaW.PrintLast Go.Proofs.YtkjdblbgmomieaaW.PrintMore Go.Proofs.Ytkjdblbgmomieaa.Str
set_option linter.unusedVariables false
set_option linter.unusedSimpArgs false
theorem ref_name_loop:∀ (rest pre:List UInt8),(pre++rest).length≤4611686018427387904→Ev (fun k=>r02_Name.l0 k (mk (pre++rest)) (pre.length:Int)) (nameFrom pre.length rest):=by
 intro rest
 induction rest with
 | nil=>
  intro pre _
  exact Ev.step (f:=fun _=>some true) (fun k=>by simp only [r02_Name.l0];rw [if_neg (by rw [mk_size];simp)]) (Ev.now _)
 | cons c rest ih=>
  intro pre hl
  have hsz:(pre.length:Int)<((mk (pre++c::rest)).size:Int):=by rw [mk_size];simp;omega
  have hw:wrap64 ((pre.length:Int)+1)=((pre++[c]).length:Int):=by
   rw [w64 (by omega) (by simp at hl;omega)];simp
  have hpre:pre++c::rest=(pre++[c])++rest:=by simp
  refine Ev.step (f:=fun k=>if nameC pre.length c=true then r02_Name.l0 k (mk ((pre++[c])++rest)) ((pre++[c]).length:Int) else some false) (fun k=>?_) ?_
  ·simp only [r02_Name.l0]
   rw [if_pos hsz,if_pos (by omega),bt_pre,hw,← hpre]
   generalize r02_Name.l0 k (mk (pre++c::rest)) ((pre++[c]).length:Int)=z
   unfold nameC
   have q6:((pre.length:Int)=0)=(pre.length=0):=by simp
   have q5:((c.toNat:Int)=95)=(c.toNat=95):=by apply propext;omega
   have q1:((c.toNat:Int)≥97)=(97≤c.toNat):=by apply propext;omega
   have q2:((c.toNat:Int)≥48)=(48≤c.toNat):=by apply propext;omega
   have q3:((c.toNat:Int)≤122)=(c.toNat≤122):=by apply propext;omega
   have q4:((c.toNat:Int)≤57)=(c.toNat≤57):=by apply propext;omega
   simp only [q1,q2,q3,q4,q5,q6]
   by_cases p1:97≤c.toNat<;>by_cases p2:48≤c.toNat<;>by_cases p3:c.toNat≤122<;>by_cases p4:c.toNat≤57<;>by_cases p5:c.toNat=95<;>by_cases p6:pre.length=0<;>first | (exfalso;omega) | simp [p1,p2,p3,p4,p5,p6]
  ·have e:nameFrom pre.length (c::rest)=(nameC pre.length c && nameFrom (pre++[c]).length rest):=by rw [nameFrom];simp
   rw [e]
   refine ev_if (fun h=>?_) (fun h=>?_)
   ·rw [h,Bool.true_and];exact ih (pre++[c]) (by rw [← hpre];exact hl)
   ·have:nameC pre.length c=false:=by simpa using h
    rw [this,Bool.false_and];exact Ev.now _
theorem ref_name_ev (l:List UInt8) (hl:l.length≤4611686018427387904):Ev (fun k=>r02_Name.f k (mk l)) (nameL l):=by
 unfold r02_Name.f
 rw [mk_size]
 have j:∀ b:Bool,(b=true→nameL l=false)→(b=false→nameL l=nameFrom 0 l)→Ev (fun k=>r02_Name.j0 k (mk l) b) (nameL l):=by
  intro b h1 h2
  cases b with
  | true=>rw [h1 rfl];exact Ev.step (f:=fun _=>some false) (fun k=>by simp [r02_Name.j0]) (Ev.now _)
  | false=>rw [h2 rfl];exact Ev.step (f:=fun k=>r02_Name.l0 k (mk ([]++l)) (([]:List UInt8).length:Int)) (fun k=>by simp [r02_Name.j0]) (ref_name_loop l [] hl)
 refine ev_if (fun h=>?_) (fun h=>?_)
 ·have:l=[]:=List.length_eq_zero_iff.1 (by omega)
  subst this
  exact j true (fun _=>rfl) (fun e=>by cases e)
 ·have hne:l.isEmpty=false:=by cases l with
   | nil=>simp at h
   | cons _ _=>rfl
  refine j _ (fun e=>?_) (fun e=>?_)
  ·have:¬ l.length≤24:=by have:=of_decide_eq_true e;omega
   simp [nameL,this]
  ·have:l.length≤24:=by have:=of_decide_eq_false e;omega
   simp [nameL,this,hne]
def idOk (a:Int):Bool:=decide (0≤a) && decide (a≤1048576)
def labOk (a:Int):Bool:=decide (0≤a) && decide (a≤255)
def endC (op:Int) (nm:ByteArray):Int:=if op=10 then shpCode nm else if op=21 then (if nameL nm.data.toList=true then 0 else 4) else if nm.toList=([]:List UInt8) then 0 else 4
def labsC (l:List Int) (c:Int):Int:=if l.all labOk=true then c else 7
def idsC (l:List Int) (c:Int):Int:=if l.all idOk=true then c else 8
def namesC (op:Int) (l4 l5:List Int) (nm:ByteArray):Int:=idsC l4 (labsC l5 (endC op nm))
def chkC (op id n ty:Int) (l4 l5:List Int) (nm:ByteArray):Int:=
 if preWord op ty=true then 2 else if preValue op id ty=true then 8 else if preArgs op (l4.length:Int) (l5.length:Int)=true then 13 else if preNum op n=true then 18 else namesC op l4 l5 nm
theorem labsC_cons (a:Int) (l:List Int) (c:Int):labsC (a::l) c=if labOk a=true then labsC l c else 7:=by
 unfold labsC
 rw [List.all_cons]
 cases labOk a<;>simp
theorem idsC_cons (a:Int) (l:List Int) (c:Int):idsC (a::l) c=if idOk a=true then idsC l c else 8:=by
 unfold idsC
 rw [List.all_cons]
 cases idOk a<;>simp
theorem within_f (a l h:Int):show_within.f a l h=some (decide (l≤a) && decide (a≤h)):=by
 unfold show_within.f
 by_cases c:a≥l
 ·rw [if_pos c,decide_eq_true (show l≤a from c),Bool.true_and]
 ·rw [if_neg c,decide_eq_false (show ¬ l≤a from c),Bool.false_and]
theorem row_loop {α:Type} (l:List Int) (hl:l.length≤4611686018427387904) (G:Nat→Int→Option α) (cod:List Int→α) (hend:Ev (fun k=>G k (l.length:Int)) (cod []))
  (hstep:∀ x:Int,0≤x→x<(l.length:Int)→∀ r,Ev (fun k=>G k (x+1)) r→r=cod (l.drop (x+1).toNat)→Ev (fun k=>G k x) (cod (rd l x::l.drop (x+1).toNat))):
  ∀ (m:Nat) (x:Int),0≤x→x≤(l.length:Int)→l.length - x.toNat=m→Ev (fun k=>G k x) (cod (l.drop x.toNat)):=by
 intro m
 induction m with
 | zero=>
  intro x h0 h1 hm
  obtain rfl:x=(l.length:Int):=by omega
  rw [drop_none l _ (by omega)]
  exact hend
 | succ m ih=>
  intro x h0 h1 hm
  have hlt:x<(l.length:Int):=by omega
  rw [drop_cons l x 0 h0 hlt]
  exact hstep x h0 hlt _ (ih (x+1) (by omega) (by omega) (by omega)) rfl
theorem names_end (op id n ty:Int) (l4 l5:List Int) (nm:ByteArray) (at_:Int):Ev (fun k=>if op=10 then ((shape_Parse.f nm).bind fun bt255=>(some bt255.2.2)) else (if op=21 then ((token_Name.f nm).bind fun t259=>(if t259=true then (some 0) else (some 4))) else (if nm.toList=([]:List UInt8) then (some 0) else (some 4)))) (endC op nm):=by
 refine Ev.congr (f:=fun _=>some (endC op nm)) (fun k=>?_) (Ev.now _)
 unfold endC
 by_cases h1:op=10
 ·rw [if_pos h1,if_pos h1]
  unfold shape_Parse.f
  rw [Option.bind_some]
  by_cases h2:shpCode nm=0∧nm.toList≠([46]:List UInt8)
  ·rw [if_pos h2]
  ·rw [if_neg h2]
 ·rw [if_neg h1,if_neg h1]
  by_cases h2:op=21
  ·rw [if_pos h2,if_pos h2]
   unfold token_Name.f
   rw [Option.bind_some]
   split<;>rfl
  ·rw [if_neg h2,if_neg h2]
   split<;>rfl
theorem names_l1 (op id n ty:Int) (l4 l5:List Int) (nm:ByteArray) (at_:Int) (h5:l5.length≤4611686018427387904):Ev (fun k=>show_names.l1 k l5 (l5.length:Int) 0 op id n ty l4 l5 nm at_) (labsC l5 (endC op nm)):=by
 refine row_loop l5 h5 (fun k x=>show_names.l1 k l5 (l5.length:Int) x op id n ty l4 l5 nm at_) (fun l=>labsC l (endC op nm)) ?_ ?_ _ 0 (by omega) (by omega) rfl
 ·refine Ev.step (fun k=>?_) (names_end op id n ty l4 l5 nm at_)
  simp only [show_names.l1]
  rw [if_neg (by omega)]
 ·intro x h0 h1 r hr e
  subst e
  refine Ev.step (f:=fun k=>if labOk (rd l5 x)=true then show_names.l1 k l5 (l5.length:Int) (x+1) op id n ty l4 l5 nm at_ else some 7) (fun k=>?_) ?_
  ·simp only [show_names.l1]
   rw [if_pos h1,if_pos h0,if_pos h1,within_f,Option.bind_some,w64 (by omega) (by omega)]
   rfl
  ·rw [labsC_cons]
   refine ev_if (fun h=>?_) (fun h=>?_)
   ·rw [if_pos h];exact hr
   ·rw [if_neg h];exact Ev.now _
theorem names_ev (op id n ty:Int) (l4 l5:List Int) (nm:ByteArray) (at_:Int) (h4:l4.length≤4611686018427387904) (h5:l5.length≤4611686018427387904):Ev (fun k=>show_names.f k op id n ty l4 l5 nm at_) (namesC op l4 l5 nm):=by
 unfold show_names.f
 refine row_loop l4 h4 (fun k x=>show_names.l0 k l4 (l4.length:Int) x op id n ty l4 l5 nm at_) (fun l=>idsC l (labsC l5 (endC op nm))) ?_ ?_ _ 0 (by omega) (by omega) rfl
 ·refine Ev.step (fun k=>?_) (names_l1 op id n ty l4 l5 nm at_ h5)
  simp only [show_names.l0]
  rw [if_neg (by omega)]
 ·intro x h0 h1 r hr e
  subst e
  refine Ev.step (f:=fun k=>if idOk (rd l4 x)=true then show_names.l0 k l4 (l4.length:Int) (x+1) op id n ty l4 l5 nm at_ else some 8) (fun k=>?_) ?_
  ·simp only [show_names.l0]
   rw [if_pos h1,if_pos h0,if_pos h1,within_f,Option.bind_some,w64 (by omega) (by omega)]
   rfl
  ·rw [idsC_cons]
   refine ev_if (fun h=>?_) (fun h=>?_)
   ·rw [if_pos h];exact hr
   ·rw [if_neg h];exact Ev.now _
theorem check_ev (op id n ty:Int) (l4 l5:List Int) (nm:ByteArray) (at_:Int) (h4:l4.length≤4611686018427387904) (h5:l5.length≤4611686018427387904):Ev (fun k=>show_Check.f k op id n ty l4 l5 nm at_) (chkC op id n ty l4 l5 nm):=by
 unfold show_Check.f chkC
 refine ev_if (fun h=>?_) (fun h=>?_)
 ·rw [if_pos h];exact Ev.now _
 ·rw [if_neg h]
  refine ev_if (fun h=>?_) (fun h=>?_)
  ·rw [if_pos h];exact Ev.now _
  ·rw [if_neg h]
   refine ev_if (fun h=>?_) (fun h=>?_)
   ·rw [if_pos h];exact Ev.now _
   ·rw [if_neg h]
    refine ev_if (fun h=>?_) (fun h=>?_)
    ·rw [if_pos h];exact Ev.now _
    ·rw [if_neg h];exact names_ev op id n ty l4 l5 nm at_ h4 h5
theorem power_ev (e:Int):∀ (m:Nat) (a i:Int),0≤i→e≤16→(e - i).toNat=m→∃ r,Ev (fun k=>r03_power.l0 k e a i) r:=by
 intro m
 induction m with
 | zero=>
  intro a i h0 h1 hm
  exact ⟨a,Ev.step (f:=fun _=>some a) (fun k=>by simp only [r03_power.l0];rw [if_neg (by omega)]) (Ev.now _)⟩
 | succ m ih=>
  intro a i h0 h1 hm
  obtain ⟨r,hr⟩:=ih (wrap64 (a * 2)) (i+1) (by omega) h1 (by omega)
  exact ⟨r,Ev.step (f:=fun k=>r03_power.l0 k e (wrap64 (a * 2)) (i+1)) (fun k=>by simp only [r03_power.l0];rw [if_pos (by omega),w64 (x:=i+1) (by omega) (by omega)]) hr⟩
theorem parse_loop:∀ (rest pre:List UInt8) (m:Int),(pre++rest).length≤16→∃ r,Ev (fun k=>r03_Parse.l0 k (mk (pre++rest)) m (pre.length:Int)) r∧r.2.2=if rest.all shpOk=true then 0 else 16:=by
 intro rest
 induction rest with
 | nil=>
  intro pre m _
  exact ⟨_,Ev.step (f:=fun _=>some (((mk (pre++[])).size:Int),m,0)) (fun k=>by simp only [r03_Parse.l0];rw [if_neg (by rw [mk_size];simp)]) (Ev.now _),rfl⟩
 | cons c rest ih=>
  intro pre m hl
  have hsz:(pre.length:Int)<((mk (pre++c::rest)).size:Int):=by rw [mk_size];simp;omega
  have hw:wrap64 ((pre.length:Int)+1)=((pre++[c]).length:Int):=by
   rw [w64 (by omega) (by simp at hl;omega)];simp
  have hpre:pre++c::rest=(pre++[c])++rest:=by simp
  have q1:(((c.toNat:Nat):Int)=105)=(c=105):=by
   apply propext
   constructor
   ·intro h;exact UInt8.toNat_inj.mp (by show c.toNat=105;omega)
   ·rintro rfl;rfl
  have q2:(((c.toNat:Nat):Int)=112)=(c=112):=by
   apply propext
   constructor
   ·intro h;exact UInt8.toNat_inj.mp (by show c.toNat=112;omega)
   ·rintro rfl;rfl
  have q3:((((c.toNat:Nat):Int)) !=112)=(c !=112):=by
   by_cases h:c=112
   ·subst h;rfl
   ·rw [bne_iff_ne.mpr h]
    exact bne_iff_ne.mpr (by rw [Ne,q2];exact h)
  have step:∀ b:Bool,Ev (fun k=>r03_Parse.j2 k (mk (pre++c::rest)) m (pre.length:Int) true) (0,0,16):=fun b=>Ev.step (f:=fun _=>some (0,0,16)) (fun k=>by simp only [r03_Parse.j2];rw [if_pos trivial]) (Ev.now _)
  by_cases h1:c=105
  ·obtain ⟨r,hr,er⟩:=ih (pre++[c]) m (by rw [← hpre];exact hl)
   refine ⟨r,Ev.step (f:=fun k=>r03_Parse.j2 k (mk (pre++c::rest)) m (pre.length:Int) false) (fun k=>?_) (Ev.step (f:=fun k=>r03_Parse.l0 k (mk ((pre++[c])++rest)) m ((pre++[c]).length:Int)) (fun k=>?_) hr),?_⟩
   ·simp only [r03_Parse.l0]
    rw [if_pos hsz,if_pos (by omega),bt_pre,if_pos (q1.mpr h1)]
   ·simp only [r03_Parse.j2]
    rw [if_neg (by decide),if_pos (by omega),if_pos hsz,bt_pre,if_neg (by rw [q2,h1];decide),hw,← hpre]
   ·rw [er,List.all_cons,show shpOk c=true by subst h1;rfl,Bool.true_and]
  ·by_cases h2:c=112
   ·obtain ⟨p,hp⟩:=power_ev (pre.length:Int) _ 1 0 (by omega) (by simp at hl;omega) rfl
    obtain ⟨r,hr,er⟩:=ih (pre++[c]) (wrap64 (m+p)) (by rw [← hpre];exact hl)
    refine ⟨r,Ev.step (f:=fun k=>r03_Parse.j2 k (mk (pre++c::rest)) m (pre.length:Int) false) (fun k=>?_) (Ev.step (f:=fun k=>(r03_power.f k (pre.length:Int)).bind fun t144=>r03_Parse.l0 k (mk ((pre++[c])++rest)) (wrap64 (m+t144)) ((pre++[c]).length:Int)) (fun k=>?_) (Ev.bind hp hr)),?_⟩
    ·simp only [r03_Parse.l0]
     rw [if_pos hsz,if_pos (by omega),bt_pre,if_neg (by rw [q1];exact h1),q3,h2]
     rfl
    ·simp only [r03_Parse.j2]
     rw [if_neg (by decide),if_pos (by omega),if_pos hsz,bt_pre,if_pos (q2.mpr h2),hw,← hpre]
    ·rw [er,List.all_cons,show shpOk c=true by subst h2;rfl,Bool.true_and]
   ·refine ⟨(0,0,16),Ev.step (f:=fun k=>r03_Parse.j2 k (mk (pre++c::rest)) m (pre.length:Int) true) (fun k=>?_) (step true),?_⟩
    ·simp only [r03_Parse.l0]
     rw [if_pos hsz,if_pos (by omega),bt_pre,if_neg (by rw [q1];exact h1),q3,bne_iff_ne.mpr h2]
    ·rw [List.all_cons,show shpOk c=false by unfold shpOk;rw [beq_eq_false_iff_ne.mpr h1,beq_eq_false_iff_ne.mpr h2];rfl,Bool.false_and]
     rfl
theorem rparse_ev (nm:ByteArray):∃ r,Ev (fun k=>r03_Parse.f k nm) r∧r.2.2=shpCode nm:=by
 unfold r03_Parse.f shpCode
 by_cases h1:nm.toList=([46]:List UInt8)
 ·exact ⟨(0,0,0),by simp only [if_pos h1];exact Ev.now _,by rw [if_pos h1]⟩
 ·simp only [if_neg h1]
  have j1:Ev (fun k=>r03_Parse.j0 k nm true) (0,0,16):=Ev.step (f:=fun _=>some (0,0,16)) (fun k=>by simp only [r03_Parse.j0];rw [if_pos trivial]) (Ev.now _)
  by_cases h2:nm.toList=([]:List UInt8)
  ·have hs:nm.size=0:=by
    rw [toList_eq] at h2
    rw [size_data,h2]
    rfl
   exact ⟨(0,0,16),by simp only [if_pos h2];exact j1,by rw [if_neg (by omega)]⟩
  ·simp only [if_neg h2]
   have hs:1≤nm.size:=by
    rw [toList_eq] at h2
    rw [size_data]
    exact List.length_pos_iff.mpr h2
   by_cases h3:(nm.size:Int)>16
   ·exact ⟨(0,0,16),by simp only [decide_eq_true h3];exact j1,by rw [if_neg (by omega)]⟩
   ·obtain ⟨r,hr,er⟩:=parse_loop nm.data.toList [] 0 (by have:=size_data nm;simp;omega)
    refine ⟨r,?_,?_⟩
    ·simp only [decide_eq_false h3]
     refine Ev.step (f:=fun k=>r03_Parse.l0 k nm 0 0) (fun k=>by simp only [r03_Parse.j0];rw [if_neg (by decide)]) ?_
     rw [List.nil_append,← mk_data] at hr
     exact hr
    ·rw [er]
     symm
     rw [if_pos ⟨hs,by omega⟩]
theorem word_some:∀ n:Nat,n<30→1≤n→∀ t:Int,(wordL (n:Int) t).isEmpty=false:=by
 intro n hn h1 t
 have h:∀ n:Nat,n<30→1≤n→(opOf (n:Int)).w.data.toList.isEmpty=false:=by decide+kernel
 have h:=h n hn h1
 unfold wordL
 split
 ·cases hh:(opOf (n:Int)).w.data.toList with
  | nil=>rfl
  | cons a l=>rfl
 ·exact h
theorem pre_word (op ty:Int):preWord op ty=(decide (op<1) || (decide (29<op) || !(mayI op ty))):=by
 unfold preWord
 rw [toList_eq,show (mk (wordL op ty)).data.toList=wordL op ty from rfl]
 by_cases h:op<1∨29<op
 ·have e:opOf op=noRow:=if_pos h
  have et:typedI op=false:=by
   unfold typedI
   rw [beq_eq_false_iff_ne.mpr (by omega),beq_eq_false_iff_ne.mpr (by omega),beq_eq_false_iff_ne.mpr (by omega)]
   rfl
  have ew:wordL op ty=[]:=by unfold wordL;rw [if_neg (by rw [et];decide),e];rfl
  rw [ew]
  rcases h with h | h
  ·rw [decide_eq_true h];rfl
  ·rw [decide_eq_true h,Bool.true_or,Bool.or_true];rfl
 ·obtain ⟨n,rfl⟩:∃ n:Nat,op=n:=⟨op.toNat,by omega⟩
  have hw:=word_some n (by omega) (by omega) ty
  rw [decide_eq_false (show ¬ (n:Int)<1 by omega),decide_eq_false (show ¬ 29<(n:Int) by omega),Bool.false_or,Bool.false_or]
  have:(wordL (n:Int) ty==([]:List UInt8))=false:=by
   cases hh:wordL (n:Int) ty with
   | nil=>rw [hh] at hw;cases hw
   | cons a l=>rfl
  rw [this,Bool.false_or]
def countsB (op la lt:Int):Bool:=if op=20 then decide (lt≥1) && (la==lt) else if op=21 then lt==0 else if op=28 then decide (la≤1) && (lt==0) else if op=24 then (la==1) && (lt==0) else if op=26 then (la==0) && (lt==1) else if op=27 then (la==1) && (lt==2) else (la==((takesI op).length:Int)) && (lt==0)
theorem bool_eq {a b:Bool} (h:a=true↔b=true):a=b:=by cases a<;>cases b<;>simp_all
theorem pre_args (op la lt:Int) (h0:0≤la) (h1:0≤lt):preArgs op la lt=!(countsB op la lt):=by
 have e28:((takesI 28).length:Int)=0:=by decide+kernel
 have e26:((takesI 26).length:Int)=0:=by decide+kernel
 have e27:((takesI 27).length:Int)=1:=by decide+kernel
 unfold preArgs countsB argsC ownArgs argsB argsA toC toA
 apply bool_eq
 by_cases c20:op=20
 ·subst c20
  simp
  try omega
 ·by_cases c21:op=21
  ·subst c21
   simp
  ·by_cases c28:op=28
   ·subst c28
    by_cases g:la<2<;>simp [g,e28]<;>try omega
   ·by_cases c24:op=24
    ·subst c24
     simp
     try omega
    ·by_cases c26:op=26
     ·subst c26
      simp [e26]
      try omega
     ·by_cases c27:op=27
      ·subst c27
       simp [e27]
       try omega
      ·simp [c20,c21,c28,c24,c26,c27]
       try omega
theorem counts_c (op id n ty:Int) (l4 l5:List Int) (nm:ByteArray) (at_:Int):r07_counts.f 40 op id n ty l4 l5 nm at_=some (countsB op (l4.length:Int) (l5.length:Int)):=by
 unfold r07_counts.f countsB
 rw [rtakes_c]
 simp only [Option.bind_some]
 generalize (l4.length:Int)=la
 generalize (l5.length:Int)=lt
 generalize ((takesI op).length:Int)=lk
 repeat' split
 all_goals first | (simp_all;done) | (simp_all;omega)
def mostR (op:Int):Int:=if op=1 then 9223372036854775807 else if isOne op [11,12,15,13,14]=true then 15 else if isOne op [23,21,24]=true then 1048576 else if op=29 then 255 else -1
theorem most_c (op:Int):r07_most.f 4 op=some (mostR op):=by
 rcases op_cases op with rfl | rfl | rfl | rfl | rfl | rfl | rfl | rfl | rfl | rfl | rfl | rfl | h
 any_goals decide+kernel
 obtain ⟨h1,h2,h3,h4,h5,h6,h7,h8,h9,h10,h11,h12⟩:=h
 simp [r07_most.f,r07_most.j0,r07_most.j1,mostR,isOne,h1,h2,h3,h4,h5,h6,h7,h8,h9,h10]
def numR (op n:Int):Bool:=if mostR op<0 then n !=0 else if n>mostR op then true else if n<0 then op !=1 else false
theorem pre_num (op n:Int) (h0:-9223372036854775808≤n) (h1:n≤9223372036854775807):preNum op n=numR op n:=by
 apply bool_eq
 rcases op_cases op with rfl | rfl | rfl | rfl | rfl | rfl | rfl | rfl | rfl | rfl | rfl | rfl | h
 rotate_right
 any_goals first | (simp [preNum,numR,mostR,mostC,lowC,hasN,isOne];done) | (simp [preNum,numR,mostR,mostC,lowC,hasN,isOne];omega)
 obtain ⟨h1,h2,h3,h4,h5,h6,h7,h8,h9,h10,h11,h12⟩:=h
 simp [preNum,numR,mostR,mostC,lowC,hasN,isOne,h1,h2,h3,h4,h5,h6,h7,h8,h9,h10]
 try omega
theorem rnames_end (op:Int) (nm:ByteArray) (hs:nm.size≤4611686018427387904):Ev (fun k=>if op=10 then ((r03_Parse.f k nm).bind fun bt154=>(some bt154.2.2)) else (if op=21 then ((r02_Name.f k nm).bind fun t158=>(if t158=true then (some 0) else (some 4))) else (if nm.toList=([]:List UInt8) then (some 0) else (some 4)))) (endC op nm):=by
 unfold endC
 refine ev_if (fun h=>?_) (fun h=>?_)
 ·rw [if_pos h]
  obtain ⟨r,hr,er⟩:=rparse_ev nm
  refine Ev.bind hr ?_
  rw [← er]
  exact Ev.now _
 ·rw [if_neg h]
  refine ev_if (fun h=>?_) (fun h=>?_)
  ·rw [if_pos h]
   have hn:=ref_name_ev nm.data.toList (by rw [← size_data];exact hs)
   rw [← mk_data] at hn
   refine Ev.bind hn ?_
   refine ev_if (fun h=>?_) (fun h=>?_)
   ·rw [if_pos h];exact Ev.now _
   ·rw [if_neg h];exact Ev.now _
  ·rw [if_neg h]
   refine ev_if (fun h=>?_) (fun h=>?_)
   ·rw [if_pos h];exact Ev.now _
   ·rw [if_neg h];exact Ev.now _
theorem rcheck_l1 (op id n ty:Int) (l4 l5:List Int) (nm:ByteArray) (at_:Int) (h5:l5.length≤4611686018427387904) (hs:nm.size≤4611686018427387904):Ev (fun k=>r07_Check.l1 k 0 op id n ty l4 l5 nm at_) (labsC l5 (endC op nm)):=by
 refine row_loop l5 h5 (fun k x=>r07_Check.l1 k x op id n ty l4 l5 nm at_) (fun l=>labsC l (endC op nm)) ?_ ?_ _ 0 (by omega) (by omega) rfl
 ·refine Ev.step (fun k=>?_) (rnames_end op nm hs)
  simp only [r07_Check.l1]
  rw [if_neg (by omega)]
 ·intro x h0 h1 r hr e
  subst e
  refine Ev.step (f:=fun k=>if rd l5 x<0 then some 7 else if rd l5 x>255 then some 7 else r07_Check.l1 k (x+1) op id n ty l4 l5 nm at_) (fun k=>?_) ?_
  ·simp only [r07_Check.l1]
   rw [if_pos h1,if_pos h0,w64 (by omega) (by omega)]
  ·rw [labsC_cons]
   refine ev_if (fun h=>?_) (fun h=>?_)
   ·rw [if_neg (by unfold labOk;simp;omega)];exact Ev.now _
   ·refine ev_if (fun g=>?_) (fun g=>?_)
    ·rw [if_neg (by unfold labOk;simp;omega)];exact Ev.now _
    ·rw [if_pos (by unfold labOk;simp;omega)];exact hr
theorem rcheck_l0 (op id n ty:Int) (l4 l5:List Int) (nm:ByteArray) (at_:Int) (h4:l4.length≤4611686018427387904) (h5:l5.length≤4611686018427387904) (hs:nm.size≤4611686018427387904):Ev (fun k=>r07_Check.l0 k 0 op id n ty l4 l5 nm at_) (namesC op l4 l5 nm):=by
 refine row_loop l4 h4 (fun k x=>r07_Check.l0 k x op id n ty l4 l5 nm at_) (fun l=>idsC l (labsC l5 (endC op nm))) ?_ ?_ _ 0 (by omega) (by omega) rfl
 ·refine Ev.step (fun k=>?_) (rcheck_l1 op id n ty l4 l5 nm at_ h5 hs)
  simp only [r07_Check.l0]
  rw [if_neg (by omega)]
 ·intro x h0 h1 r hr e
  subst e
  refine Ev.step (f:=fun k=>if rd l4 x<0 then some 8 else if rd l4 x>1048576 then some 8 else r07_Check.l0 k (x+1) op id n ty l4 l5 nm at_) (fun k=>?_) ?_
  ·simp only [r07_Check.l0]
   rw [if_pos h1,if_pos h0,w64 (by omega) (by omega)]
  ·rw [idsC_cons]
   refine ev_if (fun h=>?_) (fun h=>?_)
   ·rw [if_neg (by unfold idOk;simp;omega)];exact Ev.now _
   ·refine ev_if (fun g=>?_) (fun g=>?_)
    ·rw [if_neg (by unfold idOk;simp;omega)];exact Ev.now _
    ·rw [if_pos (by unfold idOk;simp;omega)];exact hr
theorem rcheck_ev (op id n ty:Int) (l4 l5:List Int) (nm:ByteArray) (at_:Int) (hn0:-9223372036854775808≤n) (hn1:n≤9223372036854775807) (h4:l4.length≤4611686018427387904) (h5:l5.length≤4611686018427387904) (hs:nm.size≤4611686018427387904):
  Ev (fun k=>r07_Check.f k op id n ty l4 l5 nm at_) (chkC op id n ty l4 l5 nm):=by
 have j2:∀ b:Bool,Ev (fun k=>r07_Check.j2 k b op id n ty l4 l5 nm at_) (if b=true then 18 else namesC op l4 l5 nm):=fun b=>by
  refine Ev.step (f:=fun k=>if b=true then some 18 else r07_Check.l0 k 0 op id n ty l4 l5 nm at_) (fun k=>by simp only [r07_Check.j2]) ?_
  refine ev_if (fun h=>?_) (fun h=>?_)
  ·rw [if_pos h];exact Ev.now _
  ·rw [if_neg h];exact rcheck_l0 op id n ty l4 l5 nm at_ h4 h5 hs
 have hq:∀ b:Bool,b=preNum op n→Ev (fun k=>r07_Check.j2 k b op id n ty l4 l5 nm at_) (if preNum op n=true then 18 else namesC op l4 l5 nm):=by
  rintro b rfl
  exact j2 _
 have hc:Ev (fun k=>r07_counts.f k op id n ty l4 l5 nm at_) (countsB op (l4.length:Int) (l5.length:Int)):=Ev.of (r07_counts.mono op id n ty l4 l5 nm at_) (counts_c op id n ty l4 l5 nm at_)
 have hm:Ev (fun k=>r07_most.f k op) (mostR op):=Ev.of (r07_most.mono op) (most_c op)
 have hk:Ev (fun k=>r05_Makes.f k op id n ty l4 l5 nm at_) (makesI op ty):=Ev.of (r05_Makes.mono op id n ty l4 l5 nm at_) (makes_c op id n ty l4 l5 nm at_).2
 have j1:∀ b:Bool,Ev (fun k=>r07_Check.j1 k b op id n ty l4 l5 nm at_) (if b=true then 8 else if preArgs op (l4.length:Int) (l5.length:Int)=true then 13 else if preNum op n=true then 18 else namesC op l4 l5 nm):=fun b=>by
  refine Ev.step (fun k=>by simp only [r07_Check.j1];rfl) ?_
  refine ev_if (fun h=>?_) (fun h=>?_)
  ·rw [if_pos h];exact Ev.now _
  ·rw [if_neg h,pre_args op _ _ (by omega) (by omega)]
   refine Ev.bind hc ?_
   refine ev_if (fun h=>?_) (fun h=>?_)
   ·rw [if_neg (by rw [h];decide)]
    refine Ev.bind hm ?_
    have hp:=pre_num op n hn0 hn1
    unfold numR at hp
    refine ev_if (fun g=>?_) (fun g=>?_)
    ·rw [if_pos g] at hp
     refine ev_if (fun g2=>?_) (fun g2=>?_)
     ·refine ev_neg (by omega) (hq false (by rw [hp,g2];rfl))
     ·exact hq true (by rw [hp,bne_iff_ne.mpr g2])
    ·rw [if_neg g] at hp
     refine ev_pos (by omega) ?_
     refine ev_if (fun g2=>?_) (fun g2=>?_)
     ·exact hq true (by rw [hp,if_pos g2])
     ·rw [if_neg g2] at hp
      refine ev_if (fun g3=>?_) (fun g3=>?_)
      ·exact hq _ (by rw [hp,if_pos g3])
      ·exact hq false (by rw [hp,if_neg g3])
   ·rw [if_pos (by rw [Bool.eq_false_iff.mpr h];rfl)]
    exact Ev.now _
 have j1q:∀ b:Bool,b=preValue op id ty→Ev (fun k=>r07_Check.j1 k b op id n ty l4 l5 nm at_) (if preValue op id ty=true then 8 else if preArgs op (l4.length:Int) (l5.length:Int)=true then 13 else if preNum op n=true then 18 else namesC op l4 l5 nm):=by
  rintro b rfl
  exact j1 _
 have j0:∀ b:Bool,b=preWord op ty→Ev (fun k=>r07_Check.j0 k b op id n ty l4 l5 nm at_) (chkC op id n ty l4 l5 nm):=by
  rintro b rfl
  unfold chkC
  refine Ev.step (fun k=>by simp only [r07_Check.j0];rfl) ?_
  refine ev_if (fun h=>?_) (fun h=>?_)
  ·rw [if_pos h];exact Ev.now _
  ·rw [if_neg h]
   refine Ev.bind hk ?_
   refine ev_if (fun g=>?_) (fun g=>?_)
   ·exact j1q _ (by unfold preValue;rw [if_pos g])
   ·refine ev_if (fun g2=>?_) (fun g2=>?_)
    ·exact j1q true (by unfold preValue;rw [if_neg g,decide_eq_false (by omega)];rfl)
    ·refine ev_if (fun g3=>?_) (fun g3=>?_)
     ·exact j1q true (by unfold preValue;rw [if_neg g,decide_eq_false (show ¬ id≤1048576 by omega),Bool.and_false];rfl)
     ·exact j1q false (by unfold preValue;rw [if_neg g,decide_eq_true (show 0≤id by omega),decide_eq_true (show id≤1048576 by omega)];rfl)
 have hw:=pre_word op ty
 unfold r07_Check.f
 refine ev_if (fun h=>?_) (fun h=>?_)
 ·exact j0 true (by rw [hw,decide_eq_true h];rfl)
 ·refine ev_if (fun g=>?_) (fun g=>?_)
  ·exact j0 true (by rw [hw,decide_eq_true (show 29<op from g),Bool.true_or,Bool.or_true])
  ·refine ev_some (may_c op ty).2 ?_
   exact j0 _ (by rw [hw,decide_eq_false h,decide_eq_false (show ¬ 29<op from g)];rfl)
end Go.Proofs.Ytkjdblbgmomieaa.PSh
end
-- from YtkjdblbgmomieaaShWhl
section
namespace Go.Proofs.Ytkjdblbgmomieaa.PSh
open Go.RowKit Go.Proofs.YtkjdblbgmomieaaW.PrintWords Go.Proofs.YtkjdblbgmomieaaW.PrintLast Go.Proofs.YtkjdblbgmomieaaW.PrintMore Go.Proofs.Ytkjdblbgmomieaa.Str
set_option linter.unusedVariables false
set_option linter.unusedSimpArgs false
def okI (x:S39):Prop:=(-9223372036854775808≤x.f2∧x.f2≤9223372036854775807)∧x.f4.length≤4611686018427387904∧x.f5.length≤4611686018427387904∧x.f6.size≤4611686018427387904
def okB (b:List (S39)):Prop:=b.length≤4611686018427387904∧∀ x∈b,okI x
def okF (f:S34):Prop:=f.f0.size≤4611686018427387904∧f.f1.length≤4611686018427387904∧f.f3.length≤4611686018427387904∧∀ b∈f.f3,okB b
def okP (fs:List (S34)):Prop:=fs.length≤4611686018427387904∧∀ f∈fs,okF f
def chkI (x:S39):Int:=chkC x.f0 x.f1 x.f2 x.f3 x.f4 x.f5 x.f6
def whI:List (S39)→Int→Int × Int
 | [],n=>(0,n)
 | x::xs,n=>if 4096<n+1 then (6,n+1) else if chkI x=0 then whI xs (n+1) else (chkI x,n+1)
def whB:List (List (S39))→Int→Int × Int
 | [],n=>(0,n)
 | b::bs,n=>if (whI b n).1=0 then whB bs (whI b n).2 else whI b n
def whF:List (S34)→Int→Int→Int × Int
 | [],_,_=>(0,0)
 | f::fs,i,n=>if headC f i=0 then (if (whB f.f3 n).1=0 then whF fs (i+1) (whB f.f3 n).2 else ((whB f.f3 n).1,i)) else (headC f i,i)
theorem chkI_ev (x:S39) (h:okI x):Ev (fun k=>show_Check.f k x.f0 x.f1 x.f2 x.f3 x.f4 x.f5 x.f6 x.f7) (chkI x):=check_ev _ _ _ _ _ _ _ _ h.2.1 h.2.2.1
theorem rchkI_ev (x:S39) (h:okI x):Ev (fun k=>r07_Check.f k x.f0 x.f1 x.f2 x.f3 x.f4 x.f5 x.f6 x.f7) (chkI x):=rcheck_ev _ _ _ _ _ _ _ _ h.1.1 h.1.2 h.2.1 h.2.2.1 h.2.2.2
theorem whI_ev:∀ (xs:List (S39)) (n:Int),(∀ x∈xs,okI x)→Ev (fun k=>shwI k xs n) (whI xs n)
 | [],n,_=>by simp only [shwI,whI];exact Ev.now _
 | x::xs,n,h=>by
  simp only [shwI,whI]
  refine ev_if (fun c=>?_) (fun c=>?_)
  ·rw [if_pos c];exact Ev.now _
  ·rw [if_neg c]
   refine Ev.bind (chkI_ev x (h x (by simp))) ?_
   refine ev_if (fun c=>?_) (fun c=>?_)
   ·rw [if_pos c];exact whI_ev xs (n+1) (fun y hy=>h y (by simp [hy]))
   ·rw [if_neg c];exact Ev.now _
theorem whB_ev:∀ (bs:List (List (S39))) (n:Int),(∀ b∈bs,okB b)→Ev (fun k=>shwB k bs n) (whB bs n)
 | [],n,_=>by simp only [shwB,whB];exact Ev.now _
 | b::bs,n,h=>by
  simp only [shwB,whB]
  refine Ev.bind (whI_ev b n (h b (by simp)).2) ?_
  refine ev_if (fun c=>?_) (fun c=>?_)
  ·rw [if_pos c];exact whB_ev bs _ (fun y hy=>h y (by simp [hy]))
  ·rw [if_neg c];exact Ev.now _
theorem whF_ev:∀ (fs:List (S34)) (i n:Int),(∀ f∈fs,okF f)→Ev (fun k=>shwF k fs i n) (whF fs i n)
 | [],i,n,_=>by simp only [shwF,whF];exact Ev.now _
 | f::fs,i,n,h=>by
  simp only [shwF,whF]
  refine ev_if (fun c=>?_) (fun c=>?_)
  ·rw [if_pos c]
   refine Ev.bind (whB_ev f.f3 n (h f (by simp)).2.2.2) ?_
   refine ev_if (fun c=>?_) (fun c=>?_)
   ·rw [if_pos c];exact whF_ev fs _ _ (fun y hy=>h y (by simp [hy]))
   ·rw [if_neg c];exact Ev.now _
  ·rw [if_neg c];exact Ev.now _
theorem whole_ev (fs:List (S34)) (h:okP fs):Ev (fun k=>show_Whole.f k fs) (whF fs 0 0):=whF_ev fs 0 0 h.2
theorem whI_le:∀ (xs:List (S39)) (n:Int),0≤n→n≤4096→(whI xs n).1=0→0≤(whI xs n).2∧(whI xs n).2≤4096
 | [],n,h0,h1,_=>⟨h0,h1⟩
 | x::xs,n,h0,h1,h=>by
  simp only [whI] at h ⊢
  by_cases c:4096<n+1
  ·rw [if_pos c] at h;simp at h
  ·rw [if_neg c] at h ⊢
   by_cases c2:chkI x=0
   ·rw [if_pos c2] at h ⊢;exact whI_le xs _ (by omega) (by omega) h
   ·rw [if_neg c2] at h;exact absurd h c2
theorem whB_le:∀ (bs:List (List (S39))) (n:Int),0≤n→n≤4096→(whB bs n).1=0→0≤(whB bs n).2∧(whB bs n).2≤4096
 | [],n,h0,h1,_=>⟨h0,h1⟩
 | b::bs,n,h0,h1,h=>by
  simp only [whB] at h ⊢
  by_cases c:(whI b n).1=0
  ·rw [if_pos c] at h ⊢
   have:=whI_le b n h0 h1 c
   exact whB_le bs _ this.1 this.2 h
  ·rw [if_neg c] at h;exact absurd h c
def headL (l:List Int):Int:=if (l.all fun t=>decide (1≤t) && decide (t≤2))=true then 0 else 9
theorem headL_cons (a:Int) (l:List Int):headL (a::l)=if (decide (1≤a) && decide (a≤2))=true then headL l else 9:=by
 unfold headL
 rw [List.all_cons]
 cases (decide (1≤a) && decide (a≤2))<;>simp
theorem head_ev (f:S34) (i:Int) (h:okF f):Ev (fun k=>r07_head.f k f.f0 f.f1 f.f2 f.f3 f.f4 i) (headC f i):=by
 have l0:Ev (fun k=>r07_head.l0 k 0 f.f0 f.f1 f.f2 f.f3 f.f4) (head4 f):=by
  refine row_loop f.f1 h.2.1 (fun k x=>r07_head.l0 k x f.f0 f.f1 f.f2 f.f3 f.f4) headL ?_ ?_ _ 0 (by omega) (by omega) rfl
  ·refine Ev.step (fun k=>?_) (Ev.now _)
   simp only [r07_head.l0]
   rw [if_neg (by omega)]
   rfl
  ·intro x h0 h1 r hr e
   subst e
   have:=h.2.1
   refine Ev.step (f:=fun k=>if rd f.f1 x<1 then some 9 else if rd f.f1 x>2 then some 9 else r07_head.l0 k (x+1) f.f0 f.f1 f.f2 f.f3 f.f4) (fun k=>?_) ?_
   ·simp only [r07_head.l0]
    rw [if_pos h1,if_pos h0,w64 (by omega) (by omega)]
   ·rw [headL_cons]
    refine ev_if (fun g=>?_) (fun g=>?_)
    ·rw [if_neg (by simp;omega)];exact Ev.now _
    ·refine ev_if (fun g2=>?_) (fun g2=>?_)
     ·rw [if_neg (by simp;omega)];exact Ev.now _
     ·rw [if_pos (by simp;omega)];exact hr
 have j1:∀ b:Bool,b=!(decide (0≤f.f2) && decide (f.f2≤2))→Ev (fun k=>r07_head.j1 k b f.f0 f.f1 f.f2 f.f3 f.f4) (head3 f):=fun b hb=>by
  unfold head3
  refine Ev.step (fun k=>by simp only [r07_head.j1];rfl) ?_
  refine ev_if (fun c=>?_) (fun c=>?_)
  ·rw [if_neg (by rw [hb] at c;intro e;rw [e] at c;cases c)];exact Ev.now _
  ·rw [if_pos (by rw [hb] at c;simpa using c)];exact l0
 have j0:∀ b:Bool,b=limC f i→Ev (fun k=>r07_head.j0 k b f.f0 f.f1 f.f2 f.f3 f.f4) (headC f i):=by
  rintro b rfl
  unfold headC head2
  refine Ev.step (fun k=>by simp only [r07_head.j0];rfl) ?_
  refine ev_if (fun c=>?_) (fun c=>?_)
  ·rw [if_pos c];exact Ev.now _
  ·rw [if_neg c]
   have hn:=ref_name_ev f.f0.data.toList (by rw [← size_data];exact h.1)
   rw [← mk_data] at hn
   refine Ev.bind hn ?_
   refine ev_if (fun c=>?_) (fun c=>?_)
   ·rw [if_pos c]
    refine ev_if (fun g=>?_) (fun g=>?_)
    ·exact j1 true (by rw [decide_eq_false (by omega)];rfl)
    ·exact j1 _ (by rw [decide_eq_true (show 0≤f.f2 by omega),Bool.true_and];by_cases q:f.f2≤2<;>simp [q]<;>omega)
   ·rw [if_neg c];exact Ev.now _
 unfold r07_head.f
 refine ev_if (fun c=>?_) (fun c=>?_)
 ·exact j0 true (by unfold limC;rw [decide_eq_true (show 32≤i from c)];rfl)
 ·refine ev_if (fun g=>?_) (fun g=>?_)
  ·exact j0 true (by unfold limC;rw [decide_eq_true (show 8<(f.f1.length:Int) from g),Bool.or_true];rfl)
  ·exact j0 _ (by unfold limC;rw [decide_eq_false (show ¬ 32≤i from c),decide_eq_false (show ¬ 8<(f.f1.length:Int) from g)];rfl)
theorem mem_rd {α:Type} (l:List α) (z:α) (x:Int) (h0:0≤x) (h1:x<(l.length:Int)):l.getD x.toNat z∈l:=by
 have h:x.toNat<l.length:=by omega
 rw [List.getD_eq_getElem?_getD,List.getElem?_eq_getElem h]
 exact List.getElem_mem h
theorem rwhole_l2 (fs:List (S34)) (f:S34) (i j:Int) (hj0:0≤j) (hj1:j<(f.f3.length:Int)) (hf:okF f):∀ (m:Nat) (x n:Int) (R:Int × Int),0≤x→x≤((rd_L4 f.f3 j).length:Int)→(rd_L4 f.f3 j).length - x.toNat=m→0≤n→n≤4096→
  ((whI ((rd_L4 f.f3 j).drop x.toNat) n).1=0→Ev (fun k=>r07_Whole.l1 k (whI ((rd_L4 f.f3 j).drop x.toNat) n).2 i (j+1) fs f.f0 f.f1 f.f2 f.f3 f.f4) R)→((whI ((rd_L4 f.f3 j).drop x.toNat) n).1≠0→R=((whI ((rd_L4 f.f3 j).drop x.toNat) n).1,i))→
  Ev (fun k=>r07_Whole.l2 k n i j x fs f.f0 f.f1 f.f2 f.f3 f.f4) R:=by
 have hb:okB (rd_L4 f.f3 j):=hf.2.2.2 _ (mem_rd f.f3 _ j hj0 hj1)
 have hl:=hf.2.2.1
 generalize hB:rd_L4 f.f3 j=b at *
 intro m
 induction m with
 | zero=>
  intro x n R h0 h1 hm hn0 hn1 hok hbad
  rw [drop_none b x (by omega)] at hok
  refine Ev.step (fun k=>?_) (hok rfl)
  simp only [r07_Whole.l2]
  rw [hB,if_pos hj0,if_pos hj1,if_neg (by omega),w64 (by omega) (by omega)]
  rfl
 | succ m ih=>
  intro x n R h0 h1 hm hn0 hn1 hok hbad
  have hlt:x<(b.length:Int):=by omega
  have hbl:=hb.1
  rw [drop_cons b x z39 h0 hlt] at hok hbad
  have hmem:=hb.2 _ (mem_rd b z39 x h0 hlt)
  have hrd:rd_T39 b x=b.getD x.toNat z39:=rfl
  rw [← hrd] at hok hbad hmem
  simp only [whI] at hok hbad
  refine Ev.step (f:=fun k=>if 4096<n+1 then some (6,i) else (r07_Check.f k (rd_T39 b x).f0 (rd_T39 b x).f1 (rd_T39 b x).f2 (rd_T39 b x).f3 (rd_T39 b x).f4 (rd_T39 b x).f5 (rd_T39 b x).f6 (rd_T39 b x).f7).bind fun c=>if c=0 then r07_Whole.l2 k (n+1) i j (x+1) fs f.f0 f.f1 f.f2 f.f3 f.f4 else some (c,i)) (fun k=>?_) ?_
  ·simp only [r07_Whole.l2]
   rw [hB,if_pos hj0,if_pos hj1,if_pos hlt,if_pos h0,w64 (x:=n+1) (by omega) (by omega),w64 (x:=x+1) (by omega) (by omega)]
  ·refine ev_if (fun c=>?_) (fun c=>?_)
   ·rw [if_pos c] at hbad
    rw [hbad (show (6:Int)≠0 by decide)]
    exact Ev.now _
   ·rw [if_neg c] at hok hbad
    refine Ev.bind (rchkI_ev _ hmem) ?_
    refine ev_if (fun c2=>?_) (fun c2=>?_)
    ·rw [if_pos c2] at hok hbad
     exact ih (x+1) (n+1) R (by omega) (by omega) (by omega) (by omega) (by omega) hok hbad
    ·rw [if_neg c2] at hbad
     rw [hbad c2]
     exact Ev.now _
theorem rwhole_l1 (fs:List (S34)) (f:S34) (i:Int) (hf:okF f) (R:Int × Int):∀ (m:Nat) (j n:Int),0≤j→j≤(f.f3.length:Int)→f.f3.length - j.toNat=m→0≤n→n≤4096→
  ((whB (f.f3.drop j.toNat) n).1=0→Ev (fun k=>r07_Whole.l0 k (whB (f.f3.drop j.toNat) n).2 (wrap64 (i+1)) fs) R)→((whB (f.f3.drop j.toNat) n).1≠0→R=((whB (f.f3.drop j.toNat) n).1,i))→
  Ev (fun k=>r07_Whole.l1 k n i j fs f.f0 f.f1 f.f2 f.f3 f.f4) R:=by
 intro m
 induction m with
 | zero=>
  intro j n h0 h1 hm hn0 hn1 hok hbad
  rw [drop_none f.f3 j (by omega)] at hok
  refine Ev.step (fun k=>?_) (hok rfl)
  simp only [r07_Whole.l1]
  rw [if_neg (by omega)]
  rfl
 | succ m ih=>
  intro j n h0 h1 hm hn0 hn1 hok hbad
  have hlt:j<(f.f3.length:Int):=by omega
  rw [drop_cons f.f3 j [] h0 hlt] at hok hbad
  have hrd:rd_L4 f.f3 j=f.f3.getD j.toNat []:=rfl
  rw [← hrd] at hok hbad
  simp only [whB] at hok hbad
  refine Ev.step (f:=fun k=>r07_Whole.l2 k n i j 0 fs f.f0 f.f1 f.f2 f.f3 f.f4) (fun k=>?_) ?_
  ·simp only [r07_Whole.l1]
   rw [if_pos hlt]
  ·refine rwhole_l2 fs f i j h0 hlt hf _ 0 n R (by omega) (by omega) rfl hn0 hn1 (fun c=>?_) (fun c=>?_)
   ·simp only [Int.toNat_zero,List.drop_zero] at c ⊢
    rw [if_pos c] at hok hbad
    have hle:=whI_le _ n hn0 hn1 c
    exact ih (j+1) _ (by omega) (by omega) (by omega) hle.1 hle.2 hok hbad
   ·simp only [Int.toNat_zero,List.drop_zero] at c ⊢
    rw [if_neg c] at hbad
    exact hbad c
theorem rwhole_l0 (fs:List (S34)) (hp:okP fs):∀ (m:Nat) (i n:Int),0≤i→i≤(fs.length:Int)→fs.length - i.toNat=m→0≤n→n≤4096→Ev (fun k=>r07_Whole.l0 k n i fs) (whF (fs.drop i.toNat) i n):=by
 have hl:=hp.1
 intro m
 induction m with
 | zero=>
  intro i n h0 h1 hm hn0 hn1
  rw [drop_none fs i (by omega)]
  refine Ev.step (fun k=>?_) (Ev.now _)
  simp only [r07_Whole.l0]
  rw [if_neg (by omega)]
  rfl
 | succ m ih=>
  intro i n h0 h1 hm hn0 hn1
  have hlt:i<(fs.length:Int):=by omega
  have hf:=hp.2 _ (mem_rd fs z34 i h0 hlt)
  have hrd:rd_T34 fs i=fs.getD i.toNat z34:=rfl
  rw [drop_cons fs i z34 h0 hlt,← hrd]
  rw [← hrd] at hf
  generalize hF:rd_T34 fs i=f at hf ⊢
  simp only [whF]
  refine Ev.step (f:=fun k=>(r07_head.f k f.f0 f.f1 f.f2 f.f3 f.f4 i).bind fun c=>if c=0 then r07_Whole.l1 k n i 0 fs f.f0 f.f1 f.f2 f.f3 f.f4 else some (c,i)) (fun k=>?_) ?_
  ·simp only [r07_Whole.l0]
   rw [if_pos hlt,if_pos h0,hF]
  ·refine Ev.bind (head_ev f i hf) ?_
   refine ev_if (fun c=>?_) (fun c=>?_)
   ·rw [if_pos c]
    refine rwhole_l1 fs f i hf _ _ 0 n (by omega) (by omega) rfl hn0 hn1 (fun c2=>?_) (fun c2=>?_)
    ·simp only [Int.toNat_zero,List.drop_zero] at c2 ⊢
     rw [if_pos c2,w64 (x:=i+1) (by omega) (by omega)]
     have hle:=whB_le _ n hn0 hn1 c2
     exact ih (i+1) _ (by omega) (by omega) (by omega) hle.1 hle.2
    ·simp only [Int.toNat_zero,List.drop_zero] at c2 ⊢
     rw [if_neg c2]
   ·rw [if_neg c];exact Ev.now _
theorem rwhole_ev (fs:List (S34)) (h:okP fs):Ev (fun k=>r07_Whole.f k fs) (whF fs 0 0):=rwhole_l0 fs h _ 0 0 (by omega) (by omega) rfl (by omega) (by omega)
end Go.Proofs.Ytkjdblbgmomieaa.PSh
end
-- from YtkjdblbgmomieaaShLight
section
namespace Go.Proofs.Ytkjdblbgmomieaa.PSh
open Go.RowKit Go.Proofs.YtkjdblbgmomieaaW.PrintWords Go.Proofs.YtkjdblbgmomieaaW.PrintLast Go.Proofs.YtkjdblbgmomieaaW.PrintMore Go.Proofs.Ytkjdblbgmomieaa.Str
set_option linter.unusedVariables false
set_option linter.unusedSimpArgs false
theorem size_l2 (top:Int) (fs:List (S34)) (f:S34) (i j:Int) (hj0:0≤j) (hj1:j<(f.f3.length:Int)) (hf:okF f) (hnext:∀ s:Int,∃ r,Ev (fun k=>r05_Size.l1 k top s i (j+1) fs f.f0 f.f1 f.f2 f.f3 f.f4) r):
  ∀ (m:Nat) (s x:Int),0≤x→x≤((rd_L4 f.f3 j).length:Int)→(rd_L4 f.f3 j).length - x.toNat=m→∃ r,Ev (fun k=>r05_Size.l2 k top s i j x fs f.f0 f.f1 f.f2 f.f3 f.f4) r:=by
 have hb:okB (rd_L4 f.f3 j):=hf.2.2.2 _ (mem_rd f.f3 _ j hj0 hj1)
 have hl:=hf.2.2.1
 generalize hB:rd_L4 f.f3 j=b at *
 have hbl:=hb.1
 intro m
 induction m with
 | zero=>
  intro s x h0 h1 hm
  obtain ⟨r,hr⟩:=hnext s
  refine ⟨r,Ev.step (fun k=>?_) hr⟩
  simp only [r05_Size.l2]
  rw [hB,if_pos hj0,if_pos hj1,if_neg (by omega),w64 (x:=j+1) (by omega) (by omega)]
 | succ m ih=>
  intro s x h0 h1 hm
  have hlt:x<(b.length:Int):=by omega
  by_cases c:s≤top
  ·obtain ⟨r,hr⟩:=ih _ (x+1) (by omega) (by omega) (by omega)
   refine ⟨r,Ev.step (fun k=>?_) hr⟩
   simp only [r05_Size.l2]
   rw [hB,if_pos hj0,if_pos hj1,if_pos hlt,if_pos c,if_pos h0,w64 (x:=x+1) (by omega) (by omega)]
  ·obtain ⟨r,hr⟩:=hnext s
   refine ⟨r,Ev.step (fun k=>?_) hr⟩
   simp only [r05_Size.l2]
   rw [hB,if_pos hj0,if_pos hj1,if_pos hlt,if_neg c,w64 (x:=j+1) (by omega) (by omega)]
theorem size_l1 (top:Int) (fs:List (S34)) (f:S34) (i:Int) (hf:okF f) (hnext:∀ s:Int,∃ r,Ev (fun k=>r05_Size.l0 k top s (wrap64 (i+1)) fs) r):
  ∀ (m:Nat) (s j:Int),0≤j→j≤(f.f3.length:Int)→f.f3.length - j.toNat=m→∃ r,Ev (fun k=>r05_Size.l1 k top s i j fs f.f0 f.f1 f.f2 f.f3 f.f4) r:=by
 intro m
 induction m with
 | zero=>
  intro s j h0 h1 hm
  obtain ⟨r,hr⟩:=hnext s
  refine ⟨r,Ev.step (f:=fun k=>r05_Size.j3 k top s i j false fs f.f0 f.f1 f.f2 f.f3 f.f4) (fun k=>?_) (Ev.step (fun k=>?_) hr)⟩
  ·simp only [r05_Size.l1]
   rw [if_neg (by omega)]
  ·simp only [r05_Size.j3]
   rw [if_neg (by decide)]
 | succ m ih=>
  intro s j h0 h1 hm
  have hlt:j<(f.f3.length:Int):=by omega
  by_cases c:s≤top
  ·obtain ⟨r,hr⟩:=size_l2 top fs f i j h0 hlt hf (fun s=>ih s (j+1) (by omega) (by omega) (by omega)) _ s 0 (by omega) (by omega) rfl
   refine ⟨r,Ev.step (f:=fun k=>r05_Size.j3 k top s i j true fs f.f0 f.f1 f.f2 f.f3 f.f4) (fun k=>?_) (Ev.step (fun k=>?_) hr)⟩
   ·simp only [r05_Size.l1]
    rw [if_pos hlt,decide_eq_true c]
   ·simp only [r05_Size.j3]
    rw [if_pos trivial]
  ·obtain ⟨r,hr⟩:=hnext s
   refine ⟨r,Ev.step (f:=fun k=>r05_Size.j3 k top s i j false fs f.f0 f.f1 f.f2 f.f3 f.f4) (fun k=>?_) (Ev.step (fun k=>?_) hr)⟩
   ·simp only [r05_Size.l1]
    rw [if_pos hlt,decide_eq_false c]
   ·simp only [r05_Size.j3]
    rw [if_neg (by decide)]
theorem size_l0 (top:Int) (fs:List (S34)) (hp:okP fs):∀ (m:Nat) (s i:Int),0≤i→i≤(fs.length:Int)→fs.length - i.toNat=m→∃ r,Ev (fun k=>r05_Size.l0 k top s i fs) r:=by
 have hl:=hp.1
 intro m
 induction m with
 | zero=>
  intro s i h0 h1 hm
  refine ⟨s,Ev.step (f:=fun k=>r05_Size.j1 k top s i false fs) (fun k=>?_) (Ev.step (fun k=>?_) (Ev.now _))⟩
  ·simp only [r05_Size.l0]
   rw [if_neg (by omega)]
  ·simp only [r05_Size.j1]
   rw [if_neg (by decide)]
 | succ m ih=>
  intro s i h0 h1 hm
  have hlt:i<(fs.length:Int):=by omega
  have hf:=hp.2 _ (mem_rd fs z34 i h0 hlt)
  have hrd:rd_T34 fs i=fs.getD i.toNat z34:=rfl
  rw [← hrd] at hf
  by_cases c:s≤top
  ·obtain ⟨r,hr⟩:=size_l1 top fs (rd_T34 fs i) i hf (fun s=>by rw [w64 (x:=i+1) (by omega) (by omega)];exact ih s (i+1) (by omega) (by omega) (by omega)) _ (wrap64 ((wrap64 ((wrap64 (s+(((rd_T34 fs i).f3).length:Int)))+(((rd_T34 fs i).f1).length:Int)))+(wrap64 ((((rd_T34 fs i).f0).size:Int) / 30)))) 0 (by omega) (by omega) rfl
   refine ⟨r,Ev.step (f:=fun k=>r05_Size.j1 k top s i true fs) (fun k=>?_) (Ev.step (fun k=>?_) hr)⟩
   ·simp only [r05_Size.l0]
    rw [if_pos hlt,decide_eq_true c]
   ·simp only [r05_Size.j1]
    rw [if_pos trivial,if_pos h0,if_pos hlt]
  ·refine ⟨s,Ev.step (f:=fun k=>r05_Size.j1 k top s i false fs) (fun k=>?_) (Ev.step (fun k=>?_) (Ev.now _))⟩
   ·simp only [r05_Size.l0]
    rw [if_pos hlt,decide_eq_false c]
   ·simp only [r05_Size.j1]
    rw [if_neg (by decide)]
theorem light_ev (fs:List (S34)) (hp:okP fs):∃ b,Ev (fun k=>l07_light.f k fs) b:=by
 obtain ⟨r,hr⟩:=size_l0 150 fs hp _ (fs.length:Int) 0 (by omega) (by omega) rfl
 exact ⟨_,Ev.bind (show Ev (fun k=>r05_Size.f k fs 150) r from hr) (Ev.now _)⟩
end Go.Proofs.Ytkjdblbgmomieaa.PSh
end
-- from YtkjdblbgmomieaaPureShowChecks
section
namespace Go.Proofs.Ytkjdblbgmomieaa.Pure
open Go.RowKit Go.Proofs.Ytkjdblbgmomieaa.PSh Go.Proofs.Ytkjdblbgmomieaa.ShowChecksSaid Go.Proofs.YtkjdblbgmomieaaW.PrintWords Go.Proofs.YtkjdblbgmomieaaW.PrintLast Go.Proofs.Ytkjdblbgmomieaa.Str
set_option linter.unusedVariables false
theorem lit_i64 {a:Int} (h:(Lit.int .i64 a).wf=true):-9223372036854775808≤a∧a≤9223372036854775807:=by
 simpa [Lit.wf,IntKind.min,IntKind.max,IntKind.signed,IntKind.bits] using h
theorem okI_of {x:S39} (h:good39 x):okI x:=by
 obtain ⟨h0,h1,h2,h3,h4,h5,h6,h7⟩:=h
 have e:=lit_i64 h2
 exact ⟨e,by omega,by omega,by omega⟩
theorem okF_of {f:S34} (h:good34 f):okF f:=by
 obtain ⟨h0,h1,h2,h3,h4⟩:=h
 exact ⟨by omega,by omega,by omega,fun b hb=>⟨by have:=(h3.2 b hb).1;omega,fun x hx=>okI_of ((h3.2 b hb).2 x hx)⟩⟩
theorem okP_of {p:S24} (h:good24 p):okP p.f0:=⟨by have:=h.1;omega,fun f hf=>okF_of (h.2 f hf)⟩
theorem ShowChecks:ShowChecks.Good:=by
 intro x p hx hp
 have ox:=okI_of hx
 have op:=okP_of hp
 obtain ⟨b,hb⟩:=light_ev p.f0 op
 refine Ev.rounds (r:=true) ?_
 unfold l07_ShowChecks.f
 refine Ev.bind hb ?_
 refine ev_if (fun c=>Ev.now _) (fun c=>?_)
 refine ev_if (fun c=>Ev.now _) (fun c=>?_)
 refine ev_if (fun c=>Ev.now _) (fun c=>?_)
 refine ev_if (fun c=>Ev.now _) (fun c=>?_)
 refine Ev.bind (chkI_ev x ox) (Ev.bind (rchkI_ev x ox) (ev_pos rfl ?_))
 exact Ev.bind (whole_ev p.f0 op) (Ev.bind (rwhole_ev p.f0 op) (ev_pos rfl (Ev.now _)))
end Go.Proofs.Ytkjdblbgmomieaa.Pure
end
-- from YtkjdblbgmomieaaLawShowChecks
section
namespace Go.Proofs.Ytkjdblbgmomieaa.showChecks
open Go.ChangeShapes Go.WideShapes Go.ChangeAt Go.RowKit
open Go.ChangeMaps (open_string shut_string)
open Go.Proofs.Ytkjdblbgmomieaa.PSh Go.Proofs.Ytkjdblbgmomieaa.Open Go.Proofs.Ytkjdblbgmomieaa.ShowChecksSaid
set_option linter.unusedVariables false
theorem own:ownKnob Try.prog.godebug=none:=by kernel_rfl
theorem laidOut:laidOutB Try.prog=true:=by kernel_rfl
set_option maxHeartbeats 4000000 in
set_option maxRecDepth 100000 in
theorem lifted (os:Os) (started:os.Started) (H:Type) (enc:TypeId × Value→H):
  ReturnsInHanded {} Try.checked os 4 .any (Rows.showChecksSpec.pre6 enc Try.prog Try.f4 Rows.showChecksRow.domain false) (Rows.showChecksSpec.post enc Try.prog Try.f4 false true false false):=by
 refine returnsInHanded_of_change_sized (C:=Try.checked) own started (by kernel_rfl) Try.func4
  (ChangeSpec.witness6 (enc:=enc) (C:=Try.checked) false ⟨#[],#[(.agg #[(.int .i64 0),(.int .i64 0),(.int .i64 0),(.int .i64 0),(.slice none 0 0),(.slice none 0 0),(.string ⟨#[]⟩),(.int .i64 0)]),(.agg #[(.slice none 0 0)])],[]⟩ 8 (by kernel_rfl) (by kernel_rfl) (by kernel_rfl) (by kernel_rfl)) ?_
 intro W base args ds gs before hval0 hW hcnd hsz0 _
 have hsz:(DataW.weightsEach Try.prog (Try.f4.params.toList++Rows.showChecksSpec.plain.varTypes Try.prog) (ds++gs)).all (·≤reachBytes)=true:=hsz0
 have hval:∀ (j:Nat) t v,Try.f4.params[j]?=some t→args[j]?=some v→Value.okWide Try.prog W .any base t v:=hval0
 have hW':=hW
 obtain ⟨p,q,hA0,hV,rfl,hfz,hnd⟩:=hW
 have hA:DataW.TrodAll enc Try.prog W 0 (fun _=>true) true Try.f4.params.toList args.toList ds p:=hA0
 rw [Try.params4] at hA hval hsz
 obtain ⟨v0,vs0,d0,ds0,p0,q0,hargs,rfl,rfl,h0,r0⟩:=trodAll_cons hA
 obtain ⟨v1,vs1,d1,ds1,p1,q1,rfl,rfl,rfl,h1,r1⟩:=trodAll_cons r0
 obtain ⟨rfl,rfl,rfl⟩:=trodAll_nil r1
 obtain rfl:args=#[v0,v1]:=by cases args;simp_all
 obtain ⟨rfl,rfl⟩:=trodVars_none hV
 have k0:=h0
 have lt0:∀ x∈p0,x.block<W.heap.size:=by obtain ⟨m,hm⟩:=k0;exact DataW.trod_lt m _ _ _ hm
 have wt0:∀ n∈d0.weights Try.prog 39,n≤reachBytes:=fun n hn=>by simpa using List.all_eq_true.1 hsz n (DataW.weights_mem_each (j:=0) (t:=39) rfl rfl n hn)
 obtain ⟨fuel0,hf0⟩:=h0
 obtain ⟨a0,K0,y0⟩:=open39 enc W fuel0 _ _ hf0 wt0
 obtain ⟨cs0,rfl,_⟩:=okWide_struct Try.underlying39 (hval 0 39 v0 rfl rfl)
 obtain ⟨A0_4,c0_4,A0_5,c0_5,e0,l0_4,C0_4,l0_5,C0_5⟩:=k39_open (show k39.K W a0 cs0.toList from K0)
 have ea0:cs0=_:=(@Array.toArray_toList _ cs0).symm.trans (congrArg List.toArray e0)
 subst ea0
 have k1:=h1
 have lt1:∀ x∈p1,x.block<W.heap.size:=by obtain ⟨m,hm⟩:=k1;exact DataW.trod_lt m _ _ _ hm
 have wt1:∀ n∈d1.weights Try.prog 24,n≤reachBytes:=fun n hn=>by simpa using List.all_eq_true.1 hsz n (DataW.weights_mem_each (j:=1) (t:=24) rfl rfl n hn)
 obtain ⟨fuel1,hf1⟩:=h1
 obtain ⟨a1,K1,y1⟩:=open24 enc W fuel1 _ _ hf1 wt1
 obtain ⟨cs1,rfl,_⟩:=okWide_struct Try.underlying24 (hval 1 24 v1 rfl rfl)
 obtain ⟨A1_0,c1_0,e1,l1_0,C1_0⟩:=k24_open (show k24.K W a1 cs1.toList from K1)
 have ea1:cs1=_:=(@Array.toArray_toList _ cs1).symm.trans (congrArg List.toArray e1)
 subst ea1
 clear hA0 hval0 hsz0 hsz
 obtain ⟨k,hk⟩:=Pure.ShowChecks a0 a1 y0 y1
 refine (l07_ShowChecks.calls k a0.f0 a0.f1 a0.f2 a0.f3 _ _ a0.f4 _ _ a0.f5 a0.f6 a0.f7 _ _ a1.f0 true W C0_4 l0_4 C0_5 l0_5 C1_0 l1_0 hk).mono ?_
 rintro e W' ⟨rfl,hd_⟩
 have bel:Below W.heap.size W W':=hd_
 exact ⟨_,rfl,_,_,_,[],_,[],hW',trodAll_mk1 (shut_bool Try.underlying4 _),(trodAll_cons_mk (Below.trod laidOut (by kernel_rfl) (of_decide_eq_true (by kernel_rfl)) k0 bel lt0) (trodAll_cons_mk (Below.trod laidOut (by kernel_rfl) (of_decide_eq_true (by kernel_rfl)) k1 bel lt1) trodAll_mk0)),rfl,bel.frame _,fun h=>by cases h⟩
theorem over:Rows.showChecksRow.holds Try.pinned (OpenSpec.ofChange Rows.showChecksSpec):=
 OpenClaim.holds_of_wide 4 Try.f4 rfl rfl rfl rfl rfl rfl rfl ⟨rfl,rfl,rfl,rfl,rfl⟩ rfl rfl rfl rfl rfl (by kernel_rfl) Try.func4 (by kernel_rfl)
  (of_decide_eq_true (by kernel_rfl)) (by unfold Func.isWrapper;first | (rw [if_pos (by decide+kernel)];kernel_rfl) | (rw [if_neg (by decide+kernel)];exact ⟨rfl,rfl⟩))
  (fun os started H enc _=>lifted os started H enc)
theorem proved:Rows.ShowChecksSaid:=over
#print axioms proved
end Go.Proofs.Ytkjdblbgmomieaa.showChecks
namespace Go.Proofs.Ytkjdblbgmomieaa
theorem showChecks_holds:Rows.ShowChecksSaid:=showChecks.proved
end Go.Proofs.Ytkjdblbgmomieaa
end
