import Derived.Test.YtkjdblbgmomieaaMv31
import Derived.Test.YtkjdblbgmomieaaMv32
import Derived.KernelRfl
import Derived.Test.YtkjdblbgmomieaaMv21
import Derived.Test.YtkjdblbgmomieaaMv27
import Derived.Test.YtkjdblbgmomieaaMv28
import Derived.Test.YtkjdblbgmomieaaMv29
import Derived.Test.YtkjdblbgmomieaaMv30
import Derived.Test.YtkjdblbgmomieaaMv24
import Derived.Test.YtkjdblbgmomieaaMv26
section
namespace Go.Proofs.Ytkjdblbgmomieaa.ShowWritesSaid
open Go.RowKit Go.Proofs.Ytkjdblbgmomieaa.PSh Go.Proofs.Ytkjdblbgmomieaa.Open Go.Proofs.YtkjdblbgmomieaaW.PrintWords Go.Proofs.YtkjdblbgmomieaaW.PrintLast
set_option linter.unusedVariables false
def good39 (x:S39):Prop:=((Lit.int .i64 x.f0).wf=true)∧((Lit.int .i64 x.f1).wf=true)∧((Lit.int .i64 x.f2).wf=true)∧((Lit.int .i64 x.f3).wf=true)∧(x.f4.length * 8≤140737488351232∧∀ x_∈x.f4,(Lit.int .i64 x_).wf=true)∧(x.f5.length * 8≤140737488351232∧∀ x_∈x.f5,(Lit.int .i64 x_).wf=true)∧(x.f6.size≤140737488351232)∧((Lit.int .i64 x.f7).wf=true)
theorem open39:Opens Try.prog k39 39 good39:=Opens.imp (opens_struct (g:=fun p=>⟨p.1,p.2.1,p.2.2.1,p.2.2.2.1,p.2.2.2.2.1,p.2.2.2.2.2.1,p.2.2.2.2.2.2.1,p.2.2.2.2.2.2.2⟩) Try.underlying39 (by kernel_rfl) (opensF_cons (off:=0) (off':=1) (opens_int Try.underlying3) (by kernel_rfl) (by kernel_rfl) (opensF_cons (off:=1) (off':=2) (opens_int Try.underlying3) (by kernel_rfl) (by kernel_rfl) (opensF_cons (off:=2) (off':=3) (opens_int Try.underlying2) (by kernel_rfl) (by kernel_rfl) (opensF_cons (off:=3) (off':=4) (opens_int Try.underlying3) (by kernel_rfl) (by kernel_rfl) (opensF_cons (off:=4) (off':=5) (opens_slice (e':=3) (B:=8) Try.underlying31 (opens_int Try.underlying3) (by kernel_rfl) (by kernel_rfl)) (by kernel_rfl) (by kernel_rfl) (opensF_cons (off:=5) (off':=6) (opens_slice (e':=3) (B:=8) Try.underlying31 (opens_int Try.underlying3) (by kernel_rfl) (by kernel_rfl)) (by kernel_rfl) (by kernel_rfl) (opensF_cons (off:=6) (off':=7) (opens_string Try.underlying9) (by kernel_rfl) (by kernel_rfl) (opensF_one (off:=7) (opens_int Try.underlying3) (by kernel_rfl))))))))) (fun _=>rfl)) (fun b h=>h)
def good34 (x:S34):Prop:=(x.f0.size≤140737488351232)∧(x.f1.length * 8≤140737488351232∧∀ x_∈x.f1,(Lit.int .i64 x_).wf=true)∧((Lit.int .i64 x.f2).wf=true)∧(x.f3.length * 24≤140737488351232∧∀ x_∈x.f3,x_.length * 104≤140737488351232∧∀ x__∈x_,good39 x__)∧((Lit.int .i64 x.f4).wf=true)
theorem open34:Opens Try.prog k34 34 good34:=Opens.imp (opens_struct (g:=fun p=>⟨p.1,p.2.1,p.2.2.1,p.2.2.2.1,p.2.2.2.2⟩) Try.underlying34 (by kernel_rfl) (opensF_cons (off:=0) (off':=1) (opens_string Try.underlying9) (by kernel_rfl) (by kernel_rfl) (opensF_cons (off:=1) (off':=2) (opens_slice (e':=3) (B:=8) Try.underlying31 (opens_int Try.underlying3) (by kernel_rfl) (by kernel_rfl)) (by kernel_rfl) (by kernel_rfl) (opensF_cons (off:=2) (off':=3) (opens_int Try.underlying3) (by kernel_rfl) (by kernel_rfl) (opensF_cons (off:=3) (off':=4) (opens_slice (e':=36) (B:=24) Try.underlying32 (opens_slice (e':=39) (B:=104) Try.underlying36 open39 (by kernel_rfl) (by kernel_rfl)) (by kernel_rfl) (by kernel_rfl)) (by kernel_rfl) (by kernel_rfl) (opensF_one (off:=4) (opens_int Try.underlying3) (by kernel_rfl)))))) (fun _=>rfl)) (fun b h=>h)
def good24 (x:S24):Prop:=(x.f0.length * 80≤140737488351232∧∀ x_∈x.f0,good34 x_)
theorem open24:Opens Try.prog k24 24 good24:=Opens.imp (opens_struct (g:=fun p=>⟨p⟩) Try.underlying24 (by kernel_rfl) (opensF_one (off:=0) (opens_slice (e':=34) (B:=80) Try.underlying22 open34 (by kernel_rfl) (by kernel_rfl)) (by kernel_rfl)) (fun _=>rfl)) (fun b h=>h)
def ShowWrites.Good:Prop:=∀ (a0:S24),(good24 a0)→∃ k,l07_ShowWrites.f k a0.f0=some true
end Go.Proofs.Ytkjdblbgmomieaa.ShowWritesSaid
end
section
namespace Go.Proofs.Ytkjdblbgmomieaa.PSh
open Go.RowKit Go.Proofs.YtkjdblbgmomieaaW.PrintWords Go.Proofs.YtkjdblbgmomieaaW.PrintLast Go.Proofs.YtkjdblbgmomieaaW.PrintMore Go.Proofs.Ytkjdblbgmomieaa.Str
set_option linter.unusedVariables false
set_option linter.unusedSimpArgs false
def idOk (a:Int):Bool:=decide (0≤a) && decide (a≤1048576)
def labOk (a:Int):Bool:=decide (0≤a) && decide (a≤255)
def endC (op:Int) (nm:ByteArray):Int:=if op=10 then shpCode nm else if op=21 then (if nameL nm.data.toList=true then 0 else 4) else if nm.toList=([]:List UInt8) then 0 else 4
def labsC (l:List Int) (c:Int):Int:=if l.all labOk=true then c else 7
def idsC (l:List Int) (c:Int):Int:=if l.all idOk=true then c else 8
def namesC (op:Int) (l4 l5:List Int) (nm:ByteArray):Int:=idsC l4 (labsC l5 (endC op nm))
def chkC (op id n ty:Int) (l4 l5:List Int) (nm:ByteArray):Int:=
  if preWord op ty=true then 2 else if preValue op id ty=true then 8 else if preArgs op (l4.length:Int) (l5.length:Int)=true then 13 else if preNum op n=true then 18 else namesC op l4 l5 nm
theorem labsC_cons (a:Int) (l:List Int) (c:Int):labsC (a::l) c=if labOk a=true then labsC l c else 7:=by
  unfold labsC
  rw [List.all_cons]
  cases labOk a<;>simp
theorem idsC_cons (a:Int) (l:List Int) (c:Int):idsC (a::l) c=if idOk a=true then idsC l c else 8:=by
  unfold idsC
  rw [List.all_cons]
  cases idOk a<;>simp
theorem row_loop {α:Type} (l:List Int) (hl:l.length≤4611686018427387904) (G:Nat→Int→Option α) (cod:List Int→α) (hend:Ev (fun k=>G k (l.length:Int)) (cod []))
    (hstep:∀ x:Int,0≤x→x<(l.length:Int)→∀ r,Ev (fun k=>G k (x+1)) r→r=cod (l.drop (x+1).toNat)→Ev (fun k=>G k x) (cod (rd l x::l.drop (x+1).toNat))):
    ∀ (m:Nat) (x:Int),0≤x→x≤(l.length:Int)→l.length - x.toNat=m→Ev (fun k=>G k x) (cod (l.drop x.toNat)):=by
  intro m
  induction m with
  | zero=>
    intro x h0 h1 hm
    obtain rfl:x=(l.length:Int):=by omega
    rw [drop_none l _ (by omega)]
    exact hend
  | succ m ih=>
    intro x h0 h1 hm
    have hlt:x<(l.length:Int):=by omega
    rw [drop_cons l x 0 h0 hlt]
    exact hstep x h0 hlt _ (ih (x+1) (by omega) (by omega) (by omega)) rfl
theorem power_ev (e:Int):∀ (m:Nat) (a i:Int),0≤i→e≤16→(e - i).toNat=m→∃ r,Ev (fun k=>r03_power.l0 k e a i) r:=by
  intro m
  induction m with
  | zero=>
    intro a i h0 h1 hm
    exact ⟨a,Ev.step (f:=fun _=>some a) (fun k=>by simp only [r03_power.l0];rw [if_neg (by omega)]) (Ev.now _)⟩
  | succ m ih=>
    intro a i h0 h1 hm
    obtain ⟨r,hr⟩:=ih (wrap64 (a * 2)) (i+1) (by omega) h1 (by omega)
    exact ⟨r,Ev.step (f:=fun k=>r03_power.l0 k e (wrap64 (a * 2)) (i+1)) (fun k=>by simp only [r03_power.l0];rw [if_pos (by omega),w64 (x:=i+1) (by omega) (by omega)]) hr⟩
theorem parse_loop:∀ (rest pre:List UInt8) (m:Int),(pre++rest).length≤16→∃ r,Ev (fun k=>r03_Parse.l0 k (mk (pre++rest)) m (pre.length:Int)) r∧r.2.2=if rest.all shpOk=true then 0 else 16:=by
  intro rest
  induction rest with
  | nil=>
    intro pre m _
    exact ⟨_,Ev.step (f:=fun _=>some (((mk (pre++[])).size:Int),m,0)) (fun k=>by simp only [r03_Parse.l0];rw [if_neg (by rw [mk_size];simp)]) (Ev.now _),rfl⟩
  | cons c rest ih=>
    intro pre m hl
    have hsz:(pre.length:Int)<((mk (pre++c::rest)).size:Int):=by rw [mk_size];simp;omega
    have hw:wrap64 ((pre.length:Int)+1)=((pre++[c]).length:Int):=by
      rw [w64 (by omega) (by simp at hl;omega)];simp
    have hpre:pre++c::rest=(pre++[c])++rest:=by simp
    have q1:(((c.toNat:Nat):Int)=105)=(c=105):=by
      apply propext
      constructor
      · intro h;exact UInt8.toNat_inj.mp (by show c.toNat=105;omega)
      · rintro rfl;rfl
    have q2:(((c.toNat:Nat):Int)=112)=(c=112):=by
      apply propext
      constructor
      · intro h;exact UInt8.toNat_inj.mp (by show c.toNat=112;omega)
      · rintro rfl;rfl
    have q3:((((c.toNat:Nat):Int)) !=112)=(c !=112):=by
      by_cases h:c=112
      · subst h;rfl
      · rw [bne_iff_ne.mpr h]
        exact bne_iff_ne.mpr (by rw [Ne,q2];exact h)
    have step:∀ b:Bool,Ev (fun k=>r03_Parse.j2 k (mk (pre++c::rest)) m (pre.length:Int) true) (0,0,16):=fun b=>Ev.step (f:=fun _=>some (0,0,16)) (fun k=>by simp only [r03_Parse.j2];rw [if_pos trivial]) (Ev.now _)
    by_cases h1:c=105
    · obtain ⟨r,hr,er⟩:=ih (pre++[c]) m (by rw [← hpre];exact hl)
      refine ⟨r,Ev.step (f:=fun k=>r03_Parse.j2 k (mk (pre++c::rest)) m (pre.length:Int) false) (fun k=>?_) (Ev.step (f:=fun k=>r03_Parse.l0 k (mk ((pre++[c])++rest)) m ((pre++[c]).length:Int)) (fun k=>?_) hr),?_⟩
      · simp only [r03_Parse.l0]
        rw [if_pos hsz,if_pos (by omega),bt_pre,if_pos (q1.mpr h1)]
      · simp only [r03_Parse.j2]
        rw [if_neg (by decide),if_pos (by omega),if_pos hsz,bt_pre,if_neg (by rw [q2,h1];decide),hw,← hpre]
      · rw [er,List.all_cons,show shpOk c=true by subst h1;rfl,Bool.true_and]
    · by_cases h2:c=112
      · obtain ⟨p,hp⟩:=power_ev (pre.length:Int) _ 1 0 (by omega) (by simp at hl;omega) rfl
        obtain ⟨r,hr,er⟩:=ih (pre++[c]) (wrap64 (m+p)) (by rw [← hpre];exact hl)
        refine ⟨r,Ev.step (f:=fun k=>r03_Parse.j2 k (mk (pre++c::rest)) m (pre.length:Int) false) (fun k=>?_) (Ev.step (f:=fun k=>(r03_power.f k (pre.length:Int)).bind fun t144=>r03_Parse.l0 k (mk ((pre++[c])++rest)) (wrap64 (m+t144)) ((pre++[c]).length:Int)) (fun k=>?_) (Ev.bind hp hr)),?_⟩
        · simp only [r03_Parse.l0]
          rw [if_pos hsz,if_pos (by omega),bt_pre,if_neg (by rw [q1];exact h1),q3,h2]
          rfl
        · simp only [r03_Parse.j2]
          rw [if_neg (by decide),if_pos (by omega),if_pos hsz,bt_pre,if_pos (q2.mpr h2),hw,← hpre]
        · rw [er,List.all_cons,show shpOk c=true by subst h2;rfl,Bool.true_and]
      · refine ⟨(0,0,16),Ev.step (f:=fun k=>r03_Parse.j2 k (mk (pre++c::rest)) m (pre.length:Int) true) (fun k=>?_) (step true),?_⟩
        · simp only [r03_Parse.l0]
          rw [if_pos hsz,if_pos (by omega),bt_pre,if_neg (by rw [q1];exact h1),q3,bne_iff_ne.mpr h2]
        · rw [List.all_cons,show shpOk c=false by unfold shpOk;rw [beq_eq_false_iff_ne.mpr h1,beq_eq_false_iff_ne.mpr h2];rfl,Bool.false_and]
          rfl
theorem rparse_ev (nm:ByteArray):∃ r,Ev (fun k=>r03_Parse.f k nm) r∧r.2.2=shpCode nm:=by
  unfold r03_Parse.f shpCode
  by_cases h1:nm.toList=([46]:List UInt8)
  · exact ⟨(0,0,0),by simp only [if_pos h1];exact Ev.now _,by rw [if_pos h1]⟩
  · simp only [if_neg h1]
    have j1:Ev (fun k=>r03_Parse.j0 k nm true) (0,0,16):=Ev.step (f:=fun _=>some (0,0,16)) (fun k=>by simp only [r03_Parse.j0];rw [if_pos trivial]) (Ev.now _)
    by_cases h2:nm.toList=([]:List UInt8)
    · have hs:nm.size=0:=by
        rw [toList_eq] at h2
        rw [size_data,h2]
        rfl
      exact ⟨(0,0,16),by simp only [if_pos h2];exact j1,by rw [if_neg (by omega)]⟩
    · simp only [if_neg h2]
      have hs:1≤nm.size:=by
        rw [toList_eq] at h2
        rw [size_data]
        exact List.length_pos_iff.mpr h2
      by_cases h3:(nm.size:Int)>16
      · exact ⟨(0,0,16),by simp only [decide_eq_true h3];exact j1,by rw [if_neg (by omega)]⟩
      · obtain ⟨r,hr,er⟩:=parse_loop nm.data.toList [] 0 (by have:=size_data nm;simp;omega)
        refine ⟨r,?_,?_⟩
        · simp only [decide_eq_false h3]
          refine Ev.step (f:=fun k=>r03_Parse.l0 k nm 0 0) (fun k=>by simp only [r03_Parse.j0];rw [if_neg (by decide)]) ?_
          rw [List.nil_append,← mk_data] at hr
          exact hr
        · rw [er]
          symm
          rw [if_pos ⟨hs,by omega⟩]
theorem word_some:∀ n:Nat,n<30→1≤n→∀ t:Int,(wordL (n:Int) t).isEmpty=false:=by
  intro n hn h1 t
  have h:∀ n:Nat,n<30→1≤n→(opOf (n:Int)).w.data.toList.isEmpty=false:=by decide+kernel
  have h:=h n hn h1
  unfold wordL
  split
  · cases hh:(opOf (n:Int)).w.data.toList with
    | nil=>rfl
    | cons a l=>rfl
  · exact h
theorem pre_word (op ty:Int):preWord op ty=(decide (op<1) || (decide (29<op) || !(mayI op ty))):=by
  unfold preWord
  rw [toList_eq,show (mk (wordL op ty)).data.toList=wordL op ty from rfl]
  by_cases h:op<1∨29<op
  · have e:opOf op=noRow:=if_pos h
    have et:typedI op=false:=by
      unfold typedI
      rw [beq_eq_false_iff_ne.mpr (by omega),beq_eq_false_iff_ne.mpr (by omega),beq_eq_false_iff_ne.mpr (by omega)]
      rfl
    have ew:wordL op ty=[]:=by unfold wordL;rw [if_neg (by rw [et];decide),e];rfl
    rw [ew]
    rcases h with h | h
    · rw [decide_eq_true h];rfl
    · rw [decide_eq_true h,Bool.true_or,Bool.or_true];rfl
  · obtain ⟨n,rfl⟩:∃ n:Nat,op=n:=⟨op.toNat,by omega⟩
    have hw:=word_some n (by omega) (by omega) ty
    rw [decide_eq_false (show ¬ (n:Int)<1 by omega),decide_eq_false (show ¬ 29<(n:Int) by omega),Bool.false_or,Bool.false_or]
    have:(wordL (n:Int) ty==([]:List UInt8))=false:=by
      cases hh:wordL (n:Int) ty with
      | nil=>rw [hh] at hw;cases hw
      | cons a l=>rfl
    rw [this,Bool.false_or]
def countsB (op la lt:Int):Bool:=if op=20 then decide (lt≥1) && (la==lt) else if op=21 then lt==0 else if op=28 then decide (la≤1) && (lt==0) else if op=24 then (la==1) && (lt==0) else if op=26 then (la==0) && (lt==1) else if op=27 then (la==1) && (lt==2) else (la==((takesI op).length:Int)) && (lt==0)
theorem bool_eq {a b:Bool} (h:a=true↔b=true):a=b:=by cases a<;>cases b<;>simp_all
theorem pre_args (op la lt:Int) (h0:0≤la) (h1:0≤lt):preArgs op la lt=!(countsB op la lt):=by
  have e28:((takesI 28).length:Int)=0:=by decide+kernel
  have e26:((takesI 26).length:Int)=0:=by decide+kernel
  have e27:((takesI 27).length:Int)=1:=by decide+kernel
  unfold preArgs countsB argsC ownArgs argsB argsA toC toA
  apply bool_eq
  by_cases c20:op=20
  · subst c20
    simp
    try omega
  · by_cases c21:op=21
    · subst c21
      simp
    · by_cases c28:op=28
      · subst c28
        by_cases g:la<2<;>simp [g,e28]<;>try omega
      · by_cases c24:op=24
        · subst c24
          simp
          try omega
        · by_cases c26:op=26
          · subst c26
            simp [e26]
            try omega
          · by_cases c27:op=27
            · subst c27
              simp [e27]
              try omega
            · simp [c20,c21,c28,c24,c26,c27]
              try omega
theorem counts_c (op id n ty:Int) (l4 l5:List Int) (nm:ByteArray) (at_:Int):r07_counts.f 40 op id n ty l4 l5 nm at_=some (countsB op (l4.length:Int) (l5.length:Int)):=by
  unfold r07_counts.f countsB
  rw [rtakes_c]
  simp only [Option.bind_some]
  generalize (l4.length:Int)=la
  generalize (l5.length:Int)=lt
  generalize ((takesI op).length:Int)=lk
  repeat' split
  all_goals first | (simp_all;done) | (simp_all;omega)
def mostR (op:Int):Int:=if op=1 then 9223372036854775807 else if isOne op [11,12,15,13,14]=true then 15 else if isOne op [23,21,24]=true then 1048576 else if op=29 then 255 else -1
theorem most_c (op:Int):r07_most.f 4 op=some (mostR op):=by
  rcases op_cases op with rfl | rfl | rfl | rfl | rfl | rfl | rfl | rfl | rfl | rfl | rfl | rfl | h
  any_goals decide+kernel
  obtain ⟨h1,h2,h3,h4,h5,h6,h7,h8,h9,h10,h11,h12⟩:=h
  simp [r07_most.f,r07_most.j0,r07_most.j1,mostR,isOne,h1,h2,h3,h4,h5,h6,h7,h8,h9,h10]
def numR (op n:Int):Bool:=if mostR op<0 then n !=0 else if n>mostR op then true else if n<0 then op !=1 else false
theorem pre_num (op n:Int) (h0:-9223372036854775808≤n) (h1:n≤9223372036854775807):preNum op n=numR op n:=by
  apply bool_eq
  rcases op_cases op with rfl | rfl | rfl | rfl | rfl | rfl | rfl | rfl | rfl | rfl | rfl | rfl | h
  rotate_right
  any_goals first | (simp [preNum,numR,mostR,mostC,lowC,hasN,isOne];done) | (simp [preNum,numR,mostR,mostC,lowC,hasN,isOne];omega)
  obtain ⟨h1,h2,h3,h4,h5,h6,h7,h8,h9,h10,h11,h12⟩:=h
  simp [preNum,numR,mostR,mostC,lowC,hasN,isOne,h1,h2,h3,h4,h5,h6,h7,h8,h9,h10]
  try omega
theorem rnames_end (op:Int) (nm:ByteArray) (hs:nm.size≤4611686018427387904):Ev (fun k=>if op=10 then ((r03_Parse.f k nm).bind fun bt154=>(some bt154.2.2)) else (if op=21 then ((r02_Name.f k nm).bind fun t158=>(if t158=true then (some 0) else (some 4))) else (if nm.toList=([]:List UInt8) then (some 0) else (some 4)))) (endC op nm):=by
  unfold endC
  refine ev_if (fun h=>?_) (fun h=>?_)
  · rw [if_pos h]
    obtain ⟨r,hr,er⟩:=rparse_ev nm
    refine Ev.bind hr ?_
    rw [← er]
    exact Ev.now _
  · rw [if_neg h]
    refine ev_if (fun h=>?_) (fun h=>?_)
    · rw [if_pos h]
      have hn:=ref_name_ev nm.data.toList (by rw [← size_data];exact hs)
      rw [← mk_data] at hn
      refine Ev.bind hn ?_
      refine ev_if (fun h=>?_) (fun h=>?_)
      · rw [if_pos h];exact Ev.now _
      · rw [if_neg h];exact Ev.now _
    · rw [if_neg h]
      refine ev_if (fun h=>?_) (fun h=>?_)
      · rw [if_pos h];exact Ev.now _
      · rw [if_neg h];exact Ev.now _
theorem rcheck_l1 (op id n ty:Int) (l4 l5:List Int) (nm:ByteArray) (at_:Int) (h5:l5.length≤4611686018427387904) (hs:nm.size≤4611686018427387904):Ev (fun k=>r07_Check.l1 k 0 op id n ty l4 l5 nm at_) (labsC l5 (endC op nm)):=by
  refine row_loop l5 h5 (fun k x=>r07_Check.l1 k x op id n ty l4 l5 nm at_) (fun l=>labsC l (endC op nm)) ?_ ?_ _ 0 (by omega) (by omega) rfl
  · refine Ev.step (fun k=>?_) (rnames_end op nm hs)
    simp only [r07_Check.l1]
    rw [if_neg (by omega)]
  · intro x h0 h1 r hr e
    subst e
    refine Ev.step (f:=fun k=>if rd l5 x<0 then some 7 else if rd l5 x>255 then some 7 else r07_Check.l1 k (x+1) op id n ty l4 l5 nm at_) (fun k=>?_) ?_
    · simp only [r07_Check.l1]
      rw [if_pos h1,if_pos h0,w64 (by omega) (by omega)]
    · rw [labsC_cons]
      refine ev_if (fun h=>?_) (fun h=>?_)
      · rw [if_neg (by unfold labOk;simp;omega)];exact Ev.now _
      · refine ev_if (fun g=>?_) (fun g=>?_)
        · rw [if_neg (by unfold labOk;simp;omega)];exact Ev.now _
        · rw [if_pos (by unfold labOk;simp;omega)];exact hr
theorem rcheck_l0 (op id n ty:Int) (l4 l5:List Int) (nm:ByteArray) (at_:Int) (h4:l4.length≤4611686018427387904) (h5:l5.length≤4611686018427387904) (hs:nm.size≤4611686018427387904):Ev (fun k=>r07_Check.l0 k 0 op id n ty l4 l5 nm at_) (namesC op l4 l5 nm):=by
  refine row_loop l4 h4 (fun k x=>r07_Check.l0 k x op id n ty l4 l5 nm at_) (fun l=>idsC l (labsC l5 (endC op nm))) ?_ ?_ _ 0 (by omega) (by omega) rfl
  · refine Ev.step (fun k=>?_) (rcheck_l1 op id n ty l4 l5 nm at_ h5 hs)
    simp only [r07_Check.l0]
    rw [if_neg (by omega)]
  · intro x h0 h1 r hr e
    subst e
    refine Ev.step (f:=fun k=>if rd l4 x<0 then some 8 else if rd l4 x>1048576 then some 8 else r07_Check.l0 k (x+1) op id n ty l4 l5 nm at_) (fun k=>?_) ?_
    · simp only [r07_Check.l0]
      rw [if_pos h1,if_pos h0,w64 (by omega) (by omega)]
    · rw [idsC_cons]
      refine ev_if (fun h=>?_) (fun h=>?_)
      · rw [if_neg (by unfold idOk;simp;omega)];exact Ev.now _
      · refine ev_if (fun g=>?_) (fun g=>?_)
        · rw [if_neg (by unfold idOk;simp;omega)];exact Ev.now _
        · rw [if_pos (by unfold idOk;simp;omega)];exact hr
theorem rcheck_ev (op id n ty:Int) (l4 l5:List Int) (nm:ByteArray) (at_:Int) (hn0:-9223372036854775808≤n) (hn1:n≤9223372036854775807) (h4:l4.length≤4611686018427387904) (h5:l5.length≤4611686018427387904) (hs:nm.size≤4611686018427387904):
    Ev (fun k=>r07_Check.f k op id n ty l4 l5 nm at_) (chkC op id n ty l4 l5 nm):=by
  have j2:∀ b:Bool,Ev (fun k=>r07_Check.j2 k b op id n ty l4 l5 nm at_) (if b=true then 18 else namesC op l4 l5 nm):=fun b=>by
    refine Ev.step (f:=fun k=>if b=true then some 18 else r07_Check.l0 k 0 op id n ty l4 l5 nm at_) (fun k=>by simp only [r07_Check.j2]) ?_
    refine ev_if (fun h=>?_) (fun h=>?_)
    · rw [if_pos h];exact Ev.now _
    · rw [if_neg h];exact rcheck_l0 op id n ty l4 l5 nm at_ h4 h5 hs
  have hq:∀ b:Bool,b=preNum op n→Ev (fun k=>r07_Check.j2 k b op id n ty l4 l5 nm at_) (if preNum op n=true then 18 else namesC op l4 l5 nm):=by
    rintro b rfl
    exact j2 _
  have hc:Ev (fun k=>r07_counts.f k op id n ty l4 l5 nm at_) (countsB op (l4.length:Int) (l5.length:Int)):=Ev.of (r07_counts.mono op id n ty l4 l5 nm at_) (counts_c op id n ty l4 l5 nm at_)
  have hm:Ev (fun k=>r07_most.f k op) (mostR op):=Ev.of (r07_most.mono op) (most_c op)
  have hk:Ev (fun k=>r05_Makes.f k op id n ty l4 l5 nm at_) (makesI op ty):=Ev.of (r05_Makes.mono op id n ty l4 l5 nm at_) (makes_c op id n ty l4 l5 nm at_).2
  have j1:∀ b:Bool,Ev (fun k=>r07_Check.j1 k b op id n ty l4 l5 nm at_) (if b=true then 8 else if preArgs op (l4.length:Int) (l5.length:Int)=true then 13 else if preNum op n=true then 18 else namesC op l4 l5 nm):=fun b=>by
    refine Ev.step (fun k=>by simp only [r07_Check.j1];rfl) ?_
    refine ev_if (fun h=>?_) (fun h=>?_)
    · rw [if_pos h];exact Ev.now _
    · rw [if_neg h,pre_args op _ _ (by omega) (by omega)]
      refine Ev.bind hc ?_
      refine ev_if (fun h=>?_) (fun h=>?_)
      · rw [if_neg (by rw [h];decide)]
        refine Ev.bind hm ?_
        have hp:=pre_num op n hn0 hn1
        unfold numR at hp
        refine ev_if (fun g=>?_) (fun g=>?_)
        · rw [if_pos g] at hp
          refine ev_if (fun g2=>?_) (fun g2=>?_)
          · refine ev_neg (by omega) (hq false (by rw [hp,g2];rfl))
          · exact hq true (by rw [hp,bne_iff_ne.mpr g2])
        · rw [if_neg g] at hp
          refine ev_pos (by omega) ?_
          refine ev_if (fun g2=>?_) (fun g2=>?_)
          · exact hq true (by rw [hp,if_pos g2])
          · rw [if_neg g2] at hp
            refine ev_if (fun g3=>?_) (fun g3=>?_)
            · exact hq _ (by rw [hp,if_pos g3])
            · exact hq false (by rw [hp,if_neg g3])
      · rw [if_pos (by rw [Bool.eq_false_iff.mpr h];rfl)]
        exact Ev.now _
  have j1q:∀ b:Bool,b=preValue op id ty→Ev (fun k=>r07_Check.j1 k b op id n ty l4 l5 nm at_) (if preValue op id ty=true then 8 else if preArgs op (l4.length:Int) (l5.length:Int)=true then 13 else if preNum op n=true then 18 else namesC op l4 l5 nm):=by
    rintro b rfl
    exact j1 _
  have j0:∀ b:Bool,b=preWord op ty→Ev (fun k=>r07_Check.j0 k b op id n ty l4 l5 nm at_) (chkC op id n ty l4 l5 nm):=by
    rintro b rfl
    unfold chkC
    refine Ev.step (fun k=>by simp only [r07_Check.j0];rfl) ?_
    refine ev_if (fun h=>?_) (fun h=>?_)
    · rw [if_pos h];exact Ev.now _
    · rw [if_neg h]
      refine Ev.bind hk ?_
      refine ev_if (fun g=>?_) (fun g=>?_)
      · exact j1q _ (by unfold preValue;rw [if_pos g])
      · refine ev_if (fun g2=>?_) (fun g2=>?_)
        · exact j1q true (by unfold preValue;rw [if_neg g,decide_eq_false (by omega)];rfl)
        · refine ev_if (fun g3=>?_) (fun g3=>?_)
          · exact j1q true (by unfold preValue;rw [if_neg g,decide_eq_false (show ¬ id≤1048576 by omega),Bool.and_false];rfl)
          · exact j1q false (by unfold preValue;rw [if_neg g,decide_eq_true (show 0≤id by omega),decide_eq_true (show id≤1048576 by omega)];rfl)
  have hw:=pre_word op ty
  unfold r07_Check.f
  refine ev_if (fun h=>?_) (fun h=>?_)
  · exact j0 true (by rw [hw,decide_eq_true h];rfl)
  · refine ev_if (fun g=>?_) (fun g=>?_)
    · exact j0 true (by rw [hw,decide_eq_true (show 29<op from g),Bool.true_or,Bool.or_true])
    · refine ev_some (may_c op ty).2 ?_
      exact j0 _ (by rw [hw,decide_eq_false h,decide_eq_false (show ¬ 29<op from g)];rfl)
def okI (x:S39):Prop:=(-9223372036854775808≤x.f2∧x.f2≤9223372036854775807)∧x.f4.length≤4611686018427387904∧x.f5.length≤4611686018427387904∧x.f6.size≤4611686018427387904
def okB (b:List (S39)):Prop:=b.length≤4611686018427387904∧∀ x∈b,okI x
def okF (f:S34):Prop:=f.f0.size≤4611686018427387904∧f.f1.length≤4611686018427387904∧f.f3.length≤4611686018427387904∧∀ b∈f.f3,okB b
def okP (fs:List (S34)):Prop:=fs.length≤4611686018427387904∧∀ f∈fs,okF f
def chkI (x:S39):Int:=chkC x.f0 x.f1 x.f2 x.f3 x.f4 x.f5 x.f6
def whI:List (S39)→Int→Int × Int
  | [],n=>(0,n)
  | x::xs,n=>if 4096<n+1 then (6,n+1) else if chkI x=0 then whI xs (n+1) else (chkI x,n+1)
def whB:List (List (S39))→Int→Int × Int
  | [],n=>(0,n)
  | b::bs,n=>if (whI b n).1=0 then whB bs (whI b n).2 else whI b n
def whF:List (S34)→Int→Int→Int × Int
  | [],_,_=>(0,0)
  | f::fs,i,n=>if headC f i=0 then (if (whB f.f3 n).1=0 then whF fs (i+1) (whB f.f3 n).2 else ((whB f.f3 n).1,i)) else (headC f i,i)
theorem rchkI_ev (x:S39) (h:okI x):Ev (fun k=>r07_Check.f k x.f0 x.f1 x.f2 x.f3 x.f4 x.f5 x.f6 x.f7) (chkI x):=rcheck_ev _ _ _ _ _ _ _ _ h.1.1 h.1.2 h.2.1 h.2.2.1 h.2.2.2
theorem whI_le:∀ (xs:List (S39)) (n:Int),0≤n→n≤4096→(whI xs n).1=0→0≤(whI xs n).2∧(whI xs n).2≤4096
  | [],n,h0,h1,_=>⟨h0,h1⟩
  | x::xs,n,h0,h1,h=>by
    simp only [whI] at h ⊢
    by_cases c:4096<n+1
    · rw [if_pos c] at h;simp at h
    · rw [if_neg c] at h ⊢
      by_cases c2:chkI x=0
      · rw [if_pos c2] at h ⊢;exact whI_le xs _ (by omega) (by omega) h
      · rw [if_neg c2] at h;exact absurd h c2
theorem whB_le:∀ (bs:List (List (S39))) (n:Int),0≤n→n≤4096→(whB bs n).1=0→0≤(whB bs n).2∧(whB bs n).2≤4096
  | [],n,h0,h1,_=>⟨h0,h1⟩
  | b::bs,n,h0,h1,h=>by
    simp only [whB] at h ⊢
    by_cases c:(whI b n).1=0
    · rw [if_pos c] at h ⊢
      have:=whI_le b n h0 h1 c
      exact whB_le bs _ this.1 this.2 h
    · rw [if_neg c] at h;exact absurd h c
def headL (l:List Int):Int:=if (l.all fun t=>decide (1≤t) && decide (t≤2))=true then 0 else 9
theorem headL_cons (a:Int) (l:List Int):headL (a::l)=if (decide (1≤a) && decide (a≤2))=true then headL l else 9:=by
  unfold headL
  rw [List.all_cons]
  cases (decide (1≤a) && decide (a≤2))<;>simp
theorem head_ev (f:S34) (i:Int) (h:okF f):Ev (fun k=>r07_head.f k f.f0 f.f1 f.f2 f.f3 f.f4 i) (headC f i):=by
  have l0:Ev (fun k=>r07_head.l0 k 0 f.f0 f.f1 f.f2 f.f3 f.f4) (head4 f):=by
    refine row_loop f.f1 h.2.1 (fun k x=>r07_head.l0 k x f.f0 f.f1 f.f2 f.f3 f.f4) headL ?_ ?_ _ 0 (by omega) (by omega) rfl
    · refine Ev.step (fun k=>?_) (Ev.now _)
      simp only [r07_head.l0]
      rw [if_neg (by omega)]
      rfl
    · intro x h0 h1 r hr e
      subst e
      have:=h.2.1
      refine Ev.step (f:=fun k=>if rd f.f1 x<1 then some 9 else if rd f.f1 x>2 then some 9 else r07_head.l0 k (x+1) f.f0 f.f1 f.f2 f.f3 f.f4) (fun k=>?_) ?_
      · simp only [r07_head.l0]
        rw [if_pos h1,if_pos h0,w64 (by omega) (by omega)]
      · rw [headL_cons]
        refine ev_if (fun g=>?_) (fun g=>?_)
        · rw [if_neg (by simp;omega)];exact Ev.now _
        · refine ev_if (fun g2=>?_) (fun g2=>?_)
          · rw [if_neg (by simp;omega)];exact Ev.now _
          · rw [if_pos (by simp;omega)];exact hr
  have j1:∀ b:Bool,b=!(decide (0≤f.f2) && decide (f.f2≤2))→Ev (fun k=>r07_head.j1 k b f.f0 f.f1 f.f2 f.f3 f.f4) (head3 f):=fun b hb=>by
    unfold head3
    refine Ev.step (fun k=>by simp only [r07_head.j1];rfl) ?_
    refine ev_if (fun c=>?_) (fun c=>?_)
    · rw [if_neg (by rw [hb] at c;intro e;rw [e] at c;cases c)];exact Ev.now _
    · rw [if_pos (by rw [hb] at c;simpa using c)];exact l0
  have j0:∀ b:Bool,b=limC f i→Ev (fun k=>r07_head.j0 k b f.f0 f.f1 f.f2 f.f3 f.f4) (headC f i):=by
    rintro b rfl
    unfold headC head2
    refine Ev.step (fun k=>by simp only [r07_head.j0];rfl) ?_
    refine ev_if (fun c=>?_) (fun c=>?_)
    · rw [if_pos c];exact Ev.now _
    · rw [if_neg c]
      have hn:=ref_name_ev f.f0.data.toList (by rw [← size_data];exact h.1)
      rw [← mk_data] at hn
      refine Ev.bind hn ?_
      refine ev_if (fun c=>?_) (fun c=>?_)
      · rw [if_pos c]
        refine ev_if (fun g=>?_) (fun g=>?_)
        · exact j1 true (by rw [decide_eq_false (by omega)];rfl)
        · exact j1 _ (by rw [decide_eq_true (show 0≤f.f2 by omega),Bool.true_and];by_cases q:f.f2≤2<;>simp [q]<;>omega)
      · rw [if_neg c];exact Ev.now _
  unfold r07_head.f
  refine ev_if (fun c=>?_) (fun c=>?_)
  · exact j0 true (by unfold limC;rw [decide_eq_true (show 32≤i from c)];rfl)
  · refine ev_if (fun g=>?_) (fun g=>?_)
    · exact j0 true (by unfold limC;rw [decide_eq_true (show 8<(f.f1.length:Int) from g),Bool.or_true];rfl)
    · exact j0 _ (by unfold limC;rw [decide_eq_false (show ¬ 32≤i from c),decide_eq_false (show ¬ 8<(f.f1.length:Int) from g)];rfl)
theorem mem_rd {α:Type} (l:List α) (z:α) (x:Int) (h0:0≤x) (h1:x<(l.length:Int)):l.getD x.toNat z∈l:=by
  have h:x.toNat<l.length:=by omega
  rw [List.getD_eq_getElem?_getD,List.getElem?_eq_getElem h]
  exact List.getElem_mem h
theorem rwhole_l2 (fs:List (S34)) (f:S34) (i j:Int) (hj0:0≤j) (hj1:j<(f.f3.length:Int)) (hf:okF f):∀ (m:Nat) (x n:Int) (R:Int × Int),0≤x→x≤((rd_L4 f.f3 j).length:Int)→(rd_L4 f.f3 j).length - x.toNat=m→0≤n→n≤4096→
    ((whI ((rd_L4 f.f3 j).drop x.toNat) n).1=0→Ev (fun k=>r07_Whole.l1 k (whI ((rd_L4 f.f3 j).drop x.toNat) n).2 i (j+1) fs f.f0 f.f1 f.f2 f.f3 f.f4) R)→((whI ((rd_L4 f.f3 j).drop x.toNat) n).1≠0→R=((whI ((rd_L4 f.f3 j).drop x.toNat) n).1,i))→
    Ev (fun k=>r07_Whole.l2 k n i j x fs f.f0 f.f1 f.f2 f.f3 f.f4) R:=by
  have hb:okB (rd_L4 f.f3 j):=hf.2.2.2 _ (mem_rd f.f3 _ j hj0 hj1)
  have hl:=hf.2.2.1
  generalize hB:rd_L4 f.f3 j=b at *
  intro m
  induction m with
  | zero=>
    intro x n R h0 h1 hm hn0 hn1 hok hbad
    rw [drop_none b x (by omega)] at hok
    refine Ev.step (fun k=>?_) (hok rfl)
    simp only [r07_Whole.l2]
    rw [hB,if_pos hj0,if_pos hj1,if_neg (by omega),w64 (by omega) (by omega)]
    rfl
  | succ m ih=>
    intro x n R h0 h1 hm hn0 hn1 hok hbad
    have hlt:x<(b.length:Int):=by omega
    have hbl:=hb.1
    rw [drop_cons b x z39 h0 hlt] at hok hbad
    have hmem:=hb.2 _ (mem_rd b z39 x h0 hlt)
    have hrd:rd_T39 b x=b.getD x.toNat z39:=rfl
    rw [← hrd] at hok hbad hmem
    simp only [whI] at hok hbad
    refine Ev.step (f:=fun k=>if 4096<n+1 then some (6,i) else (r07_Check.f k (rd_T39 b x).f0 (rd_T39 b x).f1 (rd_T39 b x).f2 (rd_T39 b x).f3 (rd_T39 b x).f4 (rd_T39 b x).f5 (rd_T39 b x).f6 (rd_T39 b x).f7).bind fun c=>if c=0 then r07_Whole.l2 k (n+1) i j (x+1) fs f.f0 f.f1 f.f2 f.f3 f.f4 else some (c,i)) (fun k=>?_) ?_
    · simp only [r07_Whole.l2]
      rw [hB,if_pos hj0,if_pos hj1,if_pos hlt,if_pos h0,w64 (x:=n+1) (by omega) (by omega),w64 (x:=x+1) (by omega) (by omega)]
    · refine ev_if (fun c=>?_) (fun c=>?_)
      · rw [if_pos c] at hbad
        rw [hbad (show (6:Int)≠0 by decide)]
        exact Ev.now _
      · rw [if_neg c] at hok hbad
        refine Ev.bind (rchkI_ev _ hmem) ?_
        refine ev_if (fun c2=>?_) (fun c2=>?_)
        · rw [if_pos c2] at hok hbad
          exact ih (x+1) (n+1) R (by omega) (by omega) (by omega) (by omega) (by omega) hok hbad
        · rw [if_neg c2] at hbad
          rw [hbad c2]
          exact Ev.now _
theorem rwhole_l1 (fs:List (S34)) (f:S34) (i:Int) (hf:okF f) (R:Int × Int):∀ (m:Nat) (j n:Int),0≤j→j≤(f.f3.length:Int)→f.f3.length - j.toNat=m→0≤n→n≤4096→
    ((whB (f.f3.drop j.toNat) n).1=0→Ev (fun k=>r07_Whole.l0 k (whB (f.f3.drop j.toNat) n).2 (wrap64 (i+1)) fs) R)→((whB (f.f3.drop j.toNat) n).1≠0→R=((whB (f.f3.drop j.toNat) n).1,i))→
    Ev (fun k=>r07_Whole.l1 k n i j fs f.f0 f.f1 f.f2 f.f3 f.f4) R:=by
  intro m
  induction m with
  | zero=>
    intro j n h0 h1 hm hn0 hn1 hok hbad
    rw [drop_none f.f3 j (by omega)] at hok
    refine Ev.step (fun k=>?_) (hok rfl)
    simp only [r07_Whole.l1]
    rw [if_neg (by omega)]
    rfl
  | succ m ih=>
    intro j n h0 h1 hm hn0 hn1 hok hbad
    have hlt:j<(f.f3.length:Int):=by omega
    rw [drop_cons f.f3 j [] h0 hlt] at hok hbad
    have hrd:rd_L4 f.f3 j=f.f3.getD j.toNat []:=rfl
    rw [← hrd] at hok hbad
    simp only [whB] at hok hbad
    refine Ev.step (f:=fun k=>r07_Whole.l2 k n i j 0 fs f.f0 f.f1 f.f2 f.f3 f.f4) (fun k=>?_) ?_
    · simp only [r07_Whole.l1]
      rw [if_pos hlt]
    · refine rwhole_l2 fs f i j h0 hlt hf _ 0 n R (by omega) (by omega) rfl hn0 hn1 (fun c=>?_) (fun c=>?_)
      · simp only [Int.toNat_zero,List.drop_zero] at c ⊢
        rw [if_pos c] at hok hbad
        have hle:=whI_le _ n hn0 hn1 c
        exact ih (j+1) _ (by omega) (by omega) (by omega) hle.1 hle.2 hok hbad
      · simp only [Int.toNat_zero,List.drop_zero] at c ⊢
        rw [if_neg c] at hbad
        exact hbad c
theorem rwhole_l0 (fs:List (S34)) (hp:okP fs):∀ (m:Nat) (i n:Int),0≤i→i≤(fs.length:Int)→fs.length - i.toNat=m→0≤n→n≤4096→Ev (fun k=>r07_Whole.l0 k n i fs) (whF (fs.drop i.toNat) i n):=by
  have hl:=hp.1
  intro m
  induction m with
  | zero=>
    intro i n h0 h1 hm hn0 hn1
    rw [drop_none fs i (by omega)]
    refine Ev.step (fun k=>?_) (Ev.now _)
    simp only [r07_Whole.l0]
    rw [if_neg (by omega)]
    rfl
  | succ m ih=>
    intro i n h0 h1 hm hn0 hn1
    have hlt:i<(fs.length:Int):=by omega
    have hf:=hp.2 _ (mem_rd fs z34 i h0 hlt)
    have hrd:rd_T34 fs i=fs.getD i.toNat z34:=rfl
    rw [drop_cons fs i z34 h0 hlt,← hrd]
    rw [← hrd] at hf
    generalize hF:rd_T34 fs i=f at hf ⊢
    simp only [whF]
    refine Ev.step (f:=fun k=>(r07_head.f k f.f0 f.f1 f.f2 f.f3 f.f4 i).bind fun c=>if c=0 then r07_Whole.l1 k n i 0 fs f.f0 f.f1 f.f2 f.f3 f.f4 else some (c,i)) (fun k=>?_) ?_
    · simp only [r07_Whole.l0]
      rw [if_pos hlt,if_pos h0,hF]
    · refine Ev.bind (head_ev f i hf) ?_
      refine ev_if (fun c=>?_) (fun c=>?_)
      · rw [if_pos c]
        refine rwhole_l1 fs f i hf _ _ 0 n (by omega) (by omega) rfl hn0 hn1 (fun c2=>?_) (fun c2=>?_)
        · simp only [Int.toNat_zero,List.drop_zero] at c2 ⊢
          rw [if_pos c2,w64 (x:=i+1) (by omega) (by omega)]
          have hle:=whB_le _ n hn0 hn1 c2
          exact ih (i+1) _ (by omega) (by omega) (by omega) hle.1 hle.2
        · simp only [Int.toNat_zero,List.drop_zero] at c2 ⊢
          rw [if_neg c2]
      · rw [if_neg c];exact Ev.now _
theorem rwhole_ev (fs:List (S34)) (h:okP fs):Ev (fun k=>r07_Whole.f k fs) (whF fs 0 0):=rwhole_l0 fs h _ 0 0 (by omega) (by omega) rfl (by omega) (by omega)
def fitI (x:S39):Prop:=x.f4.length≤140737488351232∧x.f5.length≤140737488351232∧x.f6.size≤140737488351232
def fitF (f:S34):Prop:=f.f0.size≤140737488351232∧f.f1.length≤140737488351232∧f.f3.length≤140737488351232∧∀ b∈f.f3,∀ x∈b,fitI x
def smallI (x:S39):Prop:=x.f4.length≤603∧x.f5.length≤603∧x.f6.size≤4529
def smallB (b:List (S39)):Prop:=b.length≤150∧∀ x∈b,smallI x
def smallF (f:S34):Prop:=f.f0.size≤4529∧f.f1.length≤150∧f.f3.length≤150∧∀ b∈f.f3,smallB b
theorem sz_l2 (fs:List (S34)) (f:S34) (i j:Int) (hj0:0≤j) (hj1:j<(f.f3.length:Int)) (hf:okF f) (hq:fitF f) (Q:Prop) (hnext:∀ s:Int,0≤s→s≤1125899906842624→∃ r,Ev (fun k=>r05_Size.l1 k 150 s i (j+1) fs f.f0 f.f1 f.f2 f.f3 f.f4) r∧(r≤150→s≤r∧Q)):
    ∀ (m:Nat) (s x:Int),0≤s→s≤1125899906842624→0≤x→x≤((rd_L4 f.f3 j).length:Int)→(rd_L4 f.f3 j).length - x.toNat=m→∃ r,Ev (fun k=>r05_Size.l2 k 150 s i j x fs f.f0 f.f1 f.f2 f.f3 f.f4) r∧(r≤150→s+(((rd_L4 f.f3 j).length:Int) - x)≤r∧(∀ y∈(rd_L4 f.f3 j).drop x.toNat,smallI y)∧Q):=by
  have hb:okB (rd_L4 f.f3 j):=hf.2.2.2 _ (mem_rd f.f3 _ j hj0 hj1)
  have hbq:∀ x∈rd_L4 f.f3 j,fitI x:=hq.2.2.2 _ (mem_rd f.f3 _ j hj0 hj1)
  have hl:=hf.2.2.1
  generalize hB:rd_L4 f.f3 j=b at *
  have hbl:=hb.1
  intro m
  induction m with
  | zero=>
    intro s x hs0 hs1 h0 h1 hm
    obtain ⟨r,hr,hQ⟩:=hnext s hs0 hs1
    refine ⟨r,Ev.step (fun k=>?_) hr,fun c=>⟨by have:=(hQ c).1;omega,by rw [drop_none b x (by omega)];simp,(hQ c).2⟩⟩
    simp only [r05_Size.l2]
    rw [hB,if_pos hj0,if_pos hj1,if_neg (by omega),w64 (x:=j+1) (by omega) (by omega)]
  | succ m ih=>
    intro s x hs0 hs1 h0 h1 hm
    have hlt:x<(b.length:Int):=by omega
    by_cases c:s≤150
    · have hfit:=hbq _ (mem_rd b z39 x h0 hlt)
      have hrd:rd_T39 b x=b.getD x.toNat z39:=rfl
      rw [← hrd] at hfit
      obtain ⟨f4,f5,f6⟩:=hfit
      have hw:(wrap64 ((wrap64 ((wrap64 ((wrap64 (s+1))+(wrap64 ((((rd_T39 b x).f4).length:Int) / 4))))+(wrap64 ((((rd_T39 b x).f5).length:Int) / 4))))+(wrap64 ((((rd_T39 b x).f6).size:Int) / 30))))=s+1+(((rd_T39 b x).f4).length:Int) / 4+(((rd_T39 b x).f5).length:Int) / 4+(((rd_T39 b x).f6).size:Int) / 30:=by
        rw [w64 (x:=s+1) (by omega) (by omega),w64 (x:=(((rd_T39 b x).f4).length:Int) / 4) (by omega) (by omega),w64 (x:=(((rd_T39 b x).f5).length:Int) / 4) (by omega) (by omega),w64 (x:=(((rd_T39 b x).f6).size:Int) / 30) (by omega) (by omega),w64 (x:=s+1+_) (by omega) (by omega),w64 (x:=s+1+_+_) (by omega) (by omega),w64 (by omega) (by omega)]
      obtain ⟨r,hr,hQ⟩:=ih (s+1+(((rd_T39 b x).f4).length:Int) / 4+(((rd_T39 b x).f5).length:Int) / 4+(((rd_T39 b x).f6).size:Int) / 30) (x+1) (by omega) (by omega) (by omega) (by omega) (by omega)
      refine ⟨r,Ev.step (fun k=>?_) hr,fun cr=>?_⟩
      · simp only [r05_Size.l2]
        rw [hB,if_pos hj0,if_pos hj1,if_pos hlt,if_pos c,if_pos h0,hw,w64 (x:=x+1) (by omega) (by omega)]
      · obtain ⟨q1,q2,q3⟩:=hQ cr
        refine ⟨by omega,?_,q3⟩
        rw [drop_cons b x z39 h0 hlt,← hrd]
        intro y hy
        rcases List.mem_cons.mp hy with rfl | hy
        · exact ⟨by omega,by omega,by omega⟩
        · exact q2 y hy
    · obtain ⟨r,hr,hQ⟩:=hnext s hs0 hs1
      refine ⟨r,Ev.step (fun k=>?_) hr,fun cr=>absurd (hQ cr).1 (by omega)⟩
      simp only [r05_Size.l2]
      rw [hB,if_pos hj0,if_pos hj1,if_pos hlt,if_neg c,w64 (x:=j+1) (by omega) (by omega)]
theorem sz_l1 (fs:List (S34)) (f:S34) (i:Int) (hf:okF f) (hq:fitF f) (Q:Prop) (hnext:∀ s:Int,0≤s→s≤1125899906842624→∃ r,Ev (fun k=>r05_Size.l0 k 150 s (wrap64 (i+1)) fs) r∧(r≤150→s≤r∧Q)):
    ∀ (m:Nat) (s j:Int),0≤s→s≤1125899906842624→0≤j→j≤(f.f3.length:Int)→f.f3.length - j.toNat=m→∃ r,Ev (fun k=>r05_Size.l1 k 150 s i j fs f.f0 f.f1 f.f2 f.f3 f.f4) r∧(r≤150→s≤r∧(∀ b∈f.f3.drop j.toNat,smallB b)∧Q):=by
  intro m
  induction m with
  | zero=>
    intro s j hs0 hs1 h0 h1 hm
    obtain ⟨r,hr,hQ⟩:=hnext s hs0 hs1
    refine ⟨r,Ev.step (f:=fun k=>r05_Size.j3 k 150 s i j false fs f.f0 f.f1 f.f2 f.f3 f.f4) (fun k=>?_) (Ev.step (fun k=>?_) hr),fun c=>⟨(hQ c).1,by rw [drop_none f.f3 j (by omega)];simp,(hQ c).2⟩⟩
    · simp only [r05_Size.l1]
      rw [if_neg (by omega)]
    · simp only [r05_Size.j3]
      rw [if_neg (by decide)]
  | succ m ih=>
    intro s j hs0 hs1 h0 h1 hm
    have hlt:j<(f.f3.length:Int):=by omega
    by_cases c:s≤150
    · obtain ⟨r,hr,hQ⟩:=sz_l2 fs f i j h0 hlt hf hq ((∀ b∈f.f3.drop (j+1).toNat,smallB b)∧Q) (fun s hs0 hs1=>ih s (j+1) hs0 hs1 (by omega) (by omega) (by omega)) _ s 0 hs0 hs1 (by omega) (by omega) rfl
      refine ⟨r,Ev.step (f:=fun k=>r05_Size.j3 k 150 s i j true fs f.f0 f.f1 f.f2 f.f3 f.f4) (fun k=>?_) (Ev.step (fun k=>?_) hr),fun cr=>?_⟩
      · simp only [r05_Size.l1]
        rw [if_pos hlt,decide_eq_true c]
      · simp only [r05_Size.j3]
        rw [if_pos trivial]
      · obtain ⟨q1,q2,q3,q4⟩:=hQ cr
        refine ⟨by omega,?_,q4⟩
        have hrd:rd_L4 f.f3 j=f.f3.getD j.toNat []:=rfl
        rw [drop_cons f.f3 j [] h0 hlt,← hrd]
        intro y hy
        rcases List.mem_cons.mp hy with rfl | hy
        · refine ⟨by omega,fun x hx=>q2 x ?_⟩
          rw [Int.toNat_zero,List.drop_zero]
          exact hx
        · exact q3 y hy
    · obtain ⟨r,hr,hQ⟩:=hnext s hs0 hs1
      refine ⟨r,Ev.step (f:=fun k=>r05_Size.j3 k 150 s i j false fs f.f0 f.f1 f.f2 f.f3 f.f4) (fun k=>?_) (Ev.step (fun k=>?_) hr),fun cr=>absurd (hQ cr).1 (by omega)⟩
      · simp only [r05_Size.l1]
        rw [if_pos hlt,decide_eq_false c]
      · simp only [r05_Size.j3]
        rw [if_neg (by decide)]
theorem sz_l0 (fs:List (S34)) (hp:okP fs) (hq:∀ f∈fs,fitF f):∀ (m:Nat) (s i:Int),0≤s→s≤1125899906842624→0≤i→i≤(fs.length:Int)→fs.length - i.toNat=m→∃ r,Ev (fun k=>r05_Size.l0 k 150 s i fs) r∧(r≤150→s≤r∧∀ f∈fs.drop i.toNat,smallF f):=by
  have hl:=hp.1
  intro m
  induction m with
  | zero=>
    intro s i hs0 hs1 h0 h1 hm
    refine ⟨s,Ev.step (f:=fun k=>r05_Size.j1 k 150 s i false fs) (fun k=>?_) (Ev.step (fun k=>?_) (Ev.now _)),fun c=>⟨Int.le_refl _,by rw [drop_none fs i (by omega)];simp⟩⟩
    · simp only [r05_Size.l0]
      rw [if_neg (by omega)]
    · simp only [r05_Size.j1]
      rw [if_neg (by decide)]
  | succ m ih=>
    intro s i hs0 hs1 h0 h1 hm
    have hlt:i<(fs.length:Int):=by omega
    have hm':=mem_rd fs z34 i h0 hlt
    have hrd:rd_T34 fs i=fs.getD i.toNat z34:=rfl
    rw [← hrd] at hm'
    have hf:=hp.2 _ hm'
    have hqf:=hq _ hm'
    by_cases c:s≤150
    · obtain ⟨f0,f1,f3,-⟩:=hqf
      have hw:wrap64 ((wrap64 ((wrap64 (s+(((rd_T34 fs i).f3).length:Int)))+(((rd_T34 fs i).f1).length:Int)))+(wrap64 ((((rd_T34 fs i).f0).size:Int) / 30)))=s+(((rd_T34 fs i).f3).length:Int)+(((rd_T34 fs i).f1).length:Int)+(((rd_T34 fs i).f0).size:Int) / 30:=by
        rw [w64 (x:=s+_) (by omega) (by omega),w64 (x:=s+_+_) (by omega) (by omega),w64 (x:=(((rd_T34 fs i).f0).size:Int) / 30) (by omega) (by omega),w64 (by omega) (by omega)]
      obtain ⟨r,hr,hQ⟩:=sz_l1 fs (rd_T34 fs i) i hf (hq _ hm') (∀ f∈fs.drop (i+1).toNat,smallF f) (fun s hs0 hs1=>by rw [w64 (x:=i+1) (by omega) (by omega)];exact ih s (i+1) hs0 hs1 (by omega) (by omega) (by omega)) _ (s+(((rd_T34 fs i).f3).length:Int)+(((rd_T34 fs i).f1).length:Int)+(((rd_T34 fs i).f0).size:Int) / 30) 0 (by omega) (by omega) (by omega) (by omega) rfl
      refine ⟨r,Ev.step (f:=fun k=>r05_Size.j1 k 150 s i true fs) (fun k=>?_) (Ev.step (fun k=>?_) hr),fun cr=>?_⟩
      · simp only [r05_Size.l0]
        rw [if_pos hlt,decide_eq_true c]
      · simp only [r05_Size.j1]
        rw [if_pos trivial,if_pos h0,if_pos hlt,hw]
      · obtain ⟨q1,q2,q3⟩:=hQ cr
        rw [Int.toNat_zero,List.drop_zero] at q2
        refine ⟨by omega,?_⟩
        rw [drop_cons fs i z34 h0 hlt,← hrd]
        intro y hy
        rcases List.mem_cons.mp hy with rfl | hy
        · exact ⟨by omega,by omega,by omega,q2⟩
        · exact q3 y hy
    · refine ⟨s,Ev.step (f:=fun k=>r05_Size.j1 k 150 s i false fs) (fun k=>?_) (Ev.step (fun k=>?_) (Ev.now _)),fun cr=>absurd cr c⟩
      · simp only [r05_Size.l0]
        rw [if_pos hlt,decide_eq_false c]
      · simp only [r05_Size.j1]
        rw [if_neg (by decide)]
theorem light_small (fs:List (S34)) (hp:okP fs) (hq:∀ f∈fs,fitF f) (hl:fs.length≤140737488351232):∃ b,Ev (fun k=>l07_light.f k fs) b∧(b=true→fs.length≤150∧∀ f∈fs,smallF f):=by
  obtain ⟨r,hr,hQ⟩:=sz_l0 fs hp hq _ (fs.length:Int) 0 (by omega) (by omega) (by omega) (by omega) rfl
  refine ⟨_,Ev.bind (show Ev (fun k=>r05_Size.f k fs 150) r from hr) (Ev.now _),fun c=>?_⟩
  have c2:r≤150:=of_decide_eq_true c
  obtain ⟨q1,q2⟩:=hQ c2
  rw [Int.toNat_zero,List.drop_zero] at q2
  exact ⟨by omega,q2⟩
end Go.Proofs.Ytkjdblbgmomieaa.PSh
end
section
namespace Go.Proofs.Ytkjdblbgmomieaa.PSh
open Go.RowKit Go.Proofs.YtkjdblbgmomieaaW.PrintWords Go.Proofs.YtkjdblbgmomieaaW.PrintLast Go.Proofs.YtkjdblbgmomieaaW.PrintMore Go.Proofs.Ytkjdblbgmomieaa.Str Go.Proofs.Ytkjdblbgmomieaa.Dig
set_option linter.unusedVariables false
set_option linter.unusedSimpArgs false
def n64 (n:Int):Prop:=-9223372036854775808≤n∧n≤9223372036854775807
def glue:List (List UInt8)→List UInt8
  | []=>[]
  | w::ws=>32::(w++glue ws)
theorem glue_app (a b:List (List UInt8)):glue (a++b)=glue a++glue b:=by
  induction a with
  | nil=>rfl
  | cons w ws ih=>simp [glue,ih]
def valL (v:Int):List UInt8:=37::digs v
def labL (v:Int):List UInt8:=98::digs v
def phiL:List Int→List Int→List (List UInt8)
  | b::bs,a::l=>labL b::valL a::phiL bs l
  | _,_=>[]
theorem L32:(⟨#[32]⟩:ByteArray)=mk [32]:=rfl
theorem L3237:(⟨#[32,37]⟩:ByteArray)=mk [32,37]:=rfl
theorem L3298:(⟨#[32,98]⟩:ByteArray)=mk [32,98]:=rfl
theorem L3264:(⟨#[32,64]⟩:ByteArray)=mk [32,64]:=rfl
theorem L37:(⟨#[37]⟩:ByteArray)=mk [37]:=rfl
theorem L326132:(⟨#[32,61,32]⟩:ByteArray)=mk [32,61,32]:=rfl
theorem rsmall_ev (n:Int) (h:n64 n):Ev (fun k=>r07_small.f k n) (mk (digs n)):=by
  obtain ⟨k,hk⟩:=rsmall_c n h.1 h.2
  exact Ev.of (r07_small.mono n) hk
theorem rprint_ev (n:Int) (h:n64 n):Ev (fun k=>r01_Print.f k n) (mk (digs n)):=ref_print n h.1 h.2
theorem args_loop (l:List Int) (hl:l.length≤1000000) (hn:∀ v∈l,n64 v):∀ (m:Nat) (x:Int) (acc:List UInt8),0≤x→l.length - x.toNat=m→acc.length+30 * m≤1000000000→Ev (fun k=>r07_args.l0 k l (mk acc) x) (mk (acc++glue ((l.drop x.toNat).map valL))):=by
  intro m
  induction m with
  | zero=>
    intro x acc h0 hm hs
    rw [drop_none l x (by omega)]
    refine Ev.step (fun k=>?_) (Ev.now _)
    simp only [r07_args.l0]
    rw [if_neg (by omega)]
    simp [glue]
  | succ m ih=>
    intro x acc h0 hm hs
    have hlt:x<(l.length:Int):=by omega
    have hv:=hn _ (mem_rd l 0 x h0 hlt)
    have hrd:rd l x=l.getD x.toNat 0:=rfl
    rw [drop_cons l x 0 h0 hlt,← hrd]
    rw [← hrd] at hv
    have hd:=digs_len (rd l x) hv.1 hv.2
    refine Ev.step (f:=fun k=>(r07_small.f k (rd l x)).bind fun t=>if (mk (acc++[32,37])).size+t.size≤9223372036854775807 then r07_args.l0 k l (mk (acc++[32,37])++t) (x+1) else none) (fun k=>?_) ?_
    · simp only [r07_args.l0]
      rw [if_pos hlt,if_pos (by rw [mk_size];omega),if_pos h0,w64 (x:=x+1) (by omega) (by omega),L3237,mk_append]
    · refine Ev.bind (rsmall_ev _ hv) (ev_pos (by rw [mk_size,mk_size];simp;omega) ?_)
      rw [mk_append]
      have:=ih (x+1) (acc++[32,37]++digs (rd l x)) (by omega) (by omega) (by simp;omega)
      rw [show acc++glue ((rd l x::l.drop (x+1).toNat).map valL)=acc++[32,37]++digs (rd l x)++glue ((l.drop (x+1).toNat).map valL) by simp [glue,valL]]
      exact this
theorem args_ev (l:List Int) (x:Int) (h0:0≤x) (hl:l.length≤1000000) (hn:∀ v∈l,n64 v):Ev (fun k=>r07_args.f k l x) (mk (glue ((l.drop x.toNat).map valL))):=by
  unfold r07_args.f
  exact args_loop l hl hn _ x [] h0 rfl (by simp;omega)
theorem rlabs_loop (op id n ty:Int) (l4 l5:List Int) (nm:ByteArray) (at_:Int) (hl:l5.length≤1000000) (hn:∀ v∈l5,n64 v):∀ (m:Nat) (x:Int) (acc:List UInt8),0≤x→l5.length - x.toNat=m→acc.length+30 * m≤1000000000→Ev (fun k=>r07_Instr.l1 k (mk acc) x op id n ty l4 l5 nm at_) (mk (acc++glue ((l5.drop x.toNat).map labL))):=by
  intro m
  induction m with
  | zero=>
    intro x acc h0 hm hs
    rw [drop_none l5 x (by omega)]
    refine Ev.step (fun k=>?_) (Ev.now _)
    simp only [r07_Instr.l1]
    rw [if_neg (by omega)]
    simp [glue]
  | succ m ih=>
    intro x acc h0 hm hs
    have hlt:x<(l5.length:Int):=by omega
    have hv:=hn _ (mem_rd l5 0 x h0 hlt)
    have hrd:rd l5 x=l5.getD x.toNat 0:=rfl
    rw [drop_cons l5 x 0 h0 hlt,← hrd]
    rw [← hrd] at hv
    have hd:=digs_len (rd l5 x) hv.1 hv.2
    refine Ev.step (f:=fun k=>(r07_small.f k (rd l5 x)).bind fun t=>if (mk (acc++[32,98])).size+t.size≤9223372036854775807 then r07_Instr.l1 k (mk (acc++[32,98])++t) (x+1) op id n ty l4 l5 nm at_ else none) (fun k=>?_) ?_
    · simp only [r07_Instr.l1]
      rw [if_pos hlt,if_pos (by rw [mk_size];omega),if_pos h0,w64 (x:=x+1) (by omega) (by omega),L3298,mk_append]
    · refine Ev.bind (rsmall_ev _ hv) (ev_pos (by rw [mk_size,mk_size];simp;omega) ?_)
      rw [mk_append]
      have:=ih (x+1) (acc++[32,98]++digs (rd l5 x)) (by omega) (by omega) (by simp;omega)
      rw [show acc++glue ((rd l5 x::l5.drop (x+1).toNat).map labL)=acc++[32,98]++digs (rd l5 x)++glue ((l5.drop (x+1).toNat).map labL) by simp [glue,labL]]
      exact this
theorem rphi_loop (op id n ty:Int) (l4 l5:List Int) (nm:ByteArray) (at_:Int) (hll:l4.length=l5.length) (hl:l5.length≤1000000) (hn4:∀ v∈l4,n64 v) (hn:∀ v∈l5,n64 v):∀ (m:Nat) (x:Int) (acc:List UInt8),0≤x→l5.length - x.toNat=m→acc.length+60 * m≤1000000000→Ev (fun k=>r07_Instr.l0 k (mk acc) x op id n ty l4 l5 nm at_) (mk (acc++glue (phiL (l5.drop x.toNat) (l4.drop x.toNat)))):=by
  intro m
  induction m with
  | zero=>
    intro x acc h0 hm hs
    rw [drop_none l5 x (by omega)]
    refine Ev.step (fun k=>?_) (Ev.now _)
    simp only [r07_Instr.l0]
    rw [if_neg (by omega)]
    simp [glue,phiL]
  | succ m ih=>
    intro x acc h0 hm hs
    have hlt:x<(l5.length:Int):=by omega
    have hlt4:x<(l4.length:Int):=by omega
    have hv:=hn _ (mem_rd l5 0 x h0 hlt)
    have hv4:=hn4 _ (mem_rd l4 0 x h0 hlt4)
    have hrd:rd l5 x=l5.getD x.toNat 0:=rfl
    have hrd4:rd l4 x=l4.getD x.toNat 0:=rfl
    rw [drop_cons l5 x 0 h0 hlt,drop_cons l4 x 0 h0 hlt4,← hrd,← hrd4]
    rw [← hrd] at hv
    rw [← hrd4] at hv4
    have hd:=digs_len (rd l5 x) hv.1 hv.2
    have hd4:=digs_len (rd l4 x) hv4.1 hv4.2
    refine Ev.step (f:=fun k=>(r07_small.f k (rd l5 x)).bind fun t=>if (mk (acc++[32,98])).size+t.size≤9223372036854775807 then (if (mk (acc++[32,98])++t).size+2≤9223372036854775807 then (r07_small.f k (rd l4 x)).bind fun u=>if (mk (acc++[32,98])++t++mk [32,37]).size+u.size≤9223372036854775807 then r07_Instr.l0 k (mk (acc++[32,98])++t++mk [32,37]++u) (x+1) op id n ty l4 l5 nm at_ else none else none) else none) (fun k=>?_) ?_
    · simp only [r07_Instr.l0]
      rw [if_pos hlt,if_pos (by rw [mk_size];omega),if_pos h0,w64 (x:=x+1) (by omega) (by omega),L3298,L3237,mk_append]
      simp only [if_pos hlt4]
    · refine Ev.bind (rsmall_ev _ hv) (ev_pos (by rw [mk_size,mk_size];simp;omega) (ev_pos (by rw [mk_append,mk_size];simp;omega) (Ev.bind (rsmall_ev _ hv4) (ev_pos (by rw [mk_append,mk_append,mk_size,mk_size];simp;omega) ?_))))
      rw [mk_append,mk_append,mk_append]
      have:=ih (x+1) (acc++[32,98]++digs (rd l5 x)++[32,37]++digs (rd l4 x)) (by omega) (by omega) (by simp;omega)
      rw [show acc++glue (phiL (rd l5 x::l5.drop (x+1).toNat) (rd l4 x::l4.drop (x+1).toNat))=acc++[32,98]++digs (rd l5 x)++[32,37]++digs (rd l4 x)++glue (phiL (l5.drop (x+1).toNat) (l4.drop (x+1).toNat)) by simp [glue,phiL,labL,valL]]
      exact this
def baseL (op id ty:Int):List UInt8:=if makesI op ty=0 then wordL op ty else valL id++[32,61,32]++wordL op ty
def tailL (op n:Int) (l4 l5:List Int) (nm:List UInt8):List (List UInt8):=
  if isOne op [1,23,29]=true then [digs n]
  else if op=10 then [nm]
  else if isOne op [11,12,15,24,13,14]=true then (match l4 with
    | []=>[]
    | a::l=>valL a::digs n::l.map valL)
  else if op=20 then phiL l5 l4
  else if op=21 then (if n=0 then [] else [64::digs n])++nm::l4.map valL
  else l4.map valL++l5.map labL
def instrL (op id n ty:Int) (l4 l5:List Int) (nm:List UInt8):List UInt8:=baseL op id ty++glue (tailL op n l4 l5 nm)
theorem rj_num (op id n ty:Int) (l4 l5:List Int) (nm:ByteArray) (at_:Int) (acc:List UInt8) (y:Int) (ha:acc.length≤1000) (hn:n64 n):Ev (fun k=>r07_Instr.j1 k (mk acc) y true op id n ty l4 l5 nm at_) (mk (acc++glue [digs n])):=by
  have hd:=digs_len n hn.1 hn.2
  refine Ev.step (fun k=>by simp only [r07_Instr.j1];rfl) ?_
  refine ev_pos trivial (ev_pos (by rw [mk_size];omega) (Ev.bind (rprint_ev n hn) (ev_pos (by rw [L32,mk_append,mk_size,mk_size];simp;omega) ?_)))
  rw [L32,mk_append,mk_append,show acc++glue [digs n]=acc++[32]++digs n by simp [glue]]
  exact Ev.now _
theorem rj_name (op id n ty:Int) (l4 l5:List Int) (nm:ByteArray) (at_:Int) (acc:List UInt8) (ha:acc.length≤1000) (hs:nm.size≤1000000):Ev (fun k=>r07_Instr.j1 k (mk acc) 10 false op id n ty l4 l5 nm at_) (mk (acc++glue [nm.data.toList])):=by
  have e:nm=mk nm.data.toList:=mk_data nm
  have hl:nm.size=nm.data.toList.length:=size_data nm
  refine Ev.step (fun k=>by simp only [r07_Instr.j1];rfl) ?_
  refine ev_neg (by decide) (ev_pos trivial (ev_pos (by rw [mk_size];omega) (ev_pos (by rw [L32,mk_append,mk_size];simp;omega) ?_)))
  have:mk acc++(⟨#[32]⟩:ByteArray)++nm=mk (acc++glue [nm.data.toList]):=by
    conv=>lhs;rw [e,L32,mk_append,mk_append]
    simp [glue]
  rw [this]
  exact Ev.now _
theorem glue_vals_len:∀ l:List Int,(∀ v∈l,n64 v)→(glue (l.map valL)).length≤24 * l.length
  | [],_=>by simp [glue]
  | a::l,h=>by
    have:=glue_vals_len l (fun v hv=>h v (by simp [hv]))
    have ha:=h a (by simp)
    have:=digs_len a ha.1 ha.2
    simp [glue,valL]
    omega
theorem rj_mem (op id n ty:Int) (a:Int) (l l5:List Int) (nm:ByteArray) (at_:Int) (acc:List UInt8) (y:Int) (ha:acc.length≤1000) (hn:n64 n) (hl:(a::l).length≤100000) (hv:∀ v∈a::l,n64 v):Ev (fun k=>r07_Instr.j2 k (mk acc) y true op id n ty (a::l) l5 nm at_) (mk (acc++glue (valL a::digs n::l.map valL))):=by
  have hd:=digs_len n hn.1 hn.2
  have hva:=hv a (by simp)
  have hda:=digs_len a hva.1 hva.2
  have hv':∀ v∈l,n64 v:=fun v h=>hv v (by simp [h])
  have hargs:=args_ev (a::l) 1 (by omega) (by omega) hv
  refine Ev.step (fun k=>by simp only [r07_Instr.j2];rfl) ?_
  refine ev_pos trivial (ev_pos (by rw [mk_size];omega) (ev_pos (by simp only [List.length_cons];omega) (Ev.bind (rsmall_ev a hva) (ev_pos (by rw [L3237,mk_append,mk_size,mk_size];simp;omega) (ev_pos (by rw [L3237,mk_append,mk_append,mk_size];simp;omega) (Ev.bind (rprint_ev n hn) (ev_pos (by rw [L3237,L32,mk_append,mk_append,mk_append,mk_size,mk_size];simp;omega) (Ev.bind hargs (ev_pos ?_ ?_)))))))))
  · have:=glue_vals_len l (fun v hv=>hv' v hv)
    rw [L3237,L32,mk_append,mk_append,mk_append,mk_append,mk_size,mk_size]
    simp at this hl ⊢
    omega
  · rw [L3237,L32,mk_append,mk_append,mk_append,mk_append,mk_append,show acc++glue (valL a::digs n::l.map valL)=acc++[32,37]++digs a++[32]++digs n++glue (((a::l).drop (1:Int).toNat).map valL) by simp [glue,valL]]
    exact Ev.now _
theorem rj_phi (op id n ty:Int) (l4 l5:List Int) (nm:ByteArray) (at_:Int) (acc:List UInt8) (ha:acc.length≤1000) (hll:l4.length=l5.length) (hl:l5.length≤100000) (h4:∀ v∈l4,n64 v) (h5:∀ v∈l5,n64 v):Ev (fun k=>r07_Instr.j2 k (mk acc) 20 false op id n ty l4 l5 nm at_) (mk (acc++glue (phiL l5 l4))):=by
  refine Ev.step (fun k=>by simp only [r07_Instr.j2];rfl) ?_
  refine ev_neg (by decide) (ev_pos trivial ?_)
  exact rphi_loop op id n ty l4 l5 nm at_ hll (by omega) h4 h5 _ 0 acc (by omega) rfl (by simp;omega)
theorem rj_call (op id n ty:Int) (l4 l5:List Int) (nm:ByteArray) (at_:Int) (acc:List UInt8) (ha:acc.length≤1000) (hn:n64 n) (hl:l4.length≤100000) (hs:nm.size≤1000000) (h4:∀ v∈l4,n64 v):Ev (fun k=>r07_Instr.j2 k (mk acc) 21 false op id n ty l4 l5 nm at_) (mk (acc++glue ((if n=0 then [] else [64::digs n])++nm.data.toList::l4.map valL))):=by
  have hd:=digs_len n hn.1 hn.2
  have hargs:=args_ev l4 0 (by omega) (by omega) h4
  rw [Int.toNat_zero,List.drop_zero] at hargs
  have hgl:=glue_vals_len l4 h4
  have hq:nm.size=nm.data.toList.length:=size_data nm
  have e:nm=mk nm.data.toList:=mk_data nm
  refine Ev.step (fun k=>by simp only [r07_Instr.j2];rfl) ?_
  refine ev_neg (by decide) (ev_neg (by decide) (ev_pos trivial ?_))
  generalize nm.data.toList=w at hq e ⊢
  subst e
  refine ev_if (fun c=>?_) (fun c=>?_)
  · rw [if_pos c]
    refine ev_pos (by rw [mk_size];omega) (ev_pos (by rw [L32,mk_append,mk_size,mk_size];simp;omega) (Ev.bind hargs (ev_pos ?_ ?_)))
    · rw [L32,mk_append,mk_append,mk_size,mk_size]
      simp
      omega
    · rw [L32,mk_append,mk_append,mk_append,show acc++glue ([]++w::l4.map valL)=acc++[32]++w++glue (l4.map valL) by simp [glue]]
      exact Ev.now _
  · rw [if_neg c]
    refine ev_pos (by rw [mk_size];omega) (Ev.bind (rprint_ev n hn) (ev_pos (by rw [L3264,mk_append,mk_size,mk_size];simp;omega) (ev_pos (by rw [L3264,mk_append,mk_append,mk_size];simp;omega) (ev_pos (by rw [L3264,L32,mk_append,mk_append,mk_append,mk_size,mk_size];simp;omega) (Ev.bind hargs (ev_pos ?_ ?_))))))
    · rw [L3264,L32,mk_append,mk_append,mk_append,mk_append,mk_size,mk_size]
      simp
      omega
    · rw [L3264,L32,mk_append,mk_append,mk_append,mk_append,mk_append,show acc++glue ([64::digs n]++w::l4.map valL)=acc++[32,64]++digs n++[32]++w++glue (l4.map valL) by simp [glue]]
      exact Ev.now _
theorem rj_rest (op id n ty:Int) (l4 l5:List Int) (nm:ByteArray) (at_:Int) (acc:List UInt8) (y:Int) (hy:y≠20∧y≠21) (ha:acc.length≤1000) (hl4:l4.length≤100000) (hl5:l5.length≤100000) (h4:∀ v∈l4,n64 v) (h5:∀ v∈l5,n64 v):Ev (fun k=>r07_Instr.j2 k (mk acc) y false op id n ty l4 l5 nm at_) (mk (acc++glue (l4.map valL++l5.map labL))):=by
  have hargs:=args_ev l4 0 (by omega) (by omega) h4
  rw [Int.toNat_zero,List.drop_zero] at hargs
  have hgl:=glue_vals_len l4 h4
  refine Ev.step (fun k=>by simp only [r07_Instr.j2];rfl) ?_
  refine ev_neg (by decide) (ev_neg hy.1 (ev_neg hy.2 (Ev.bind hargs (ev_pos ?_ ?_))))
  · rw [mk_size,mk_size]
    omega
  · rw [mk_append,glue_app,← List.append_assoc]
    have:=rlabs_loop op id n ty l4 l5 nm at_ (by omega) h5 _ 0 (acc++glue (l4.map valL)) (by omega) rfl (by simp;omega)
    rw [Int.toNat_zero,List.drop_zero] at this
    exact this
structure Tells (op n:Int) (l4 l5:List Int) (nm:ByteArray):Prop where
  hn:n64 n
  len4:l4.length≤100000
  len5:l5.length≤100000
  size:nm.size≤1000000
  h4:∀ v∈l4,n64 v
  h5:∀ v∈l5,n64 v
  mem:isOne op [11,12,15,24,13,14]=true→l4≠[]
  phi:op=20→l4.length=l5.length
theorem rj2_false (op id n ty:Int) (l4 l5:List Int) (nm:ByteArray) (at_:Int) (acc:List UInt8) (ha:acc.length≤1000) (h:Tells op n l4 l5 nm) (h1:isOne op [1,23,29]=false) (h2:op≠10) (h3:isOne op [11,12,15,24,13,14]=false):Ev (fun k=>r07_Instr.j2 k (mk acc) op false op id n ty l4 l5 nm at_) (mk (acc++glue (tailL op n l4 l5 nm.data.toList))):=by
  unfold tailL
  rw [h1,h3,if_neg (by decide),if_neg h2,if_neg (by decide)]
  by_cases c:op=20
  · subst c
    rw [if_pos rfl]
    exact rj_phi 20 id n ty l4 l5 nm at_ acc ha (h.phi rfl) h.len5 h.h4 h.h5
  · rw [if_neg c]
    by_cases d:op=21
    · subst d
      rw [if_pos rfl]
      exact rj_call 21 id n ty l4 l5 nm at_ acc ha h.hn h.len4 h.size h.h4
    · rw [if_neg d]
      exact rj_rest op id n ty l4 l5 nm at_ acc op ⟨c,d⟩ ha h.len4 h.len5 h.h4 h.h5
theorem rj2_true (op id n ty:Int) (l4 l5:List Int) (nm:ByteArray) (at_:Int) (acc:List UInt8) (ha:acc.length≤1000) (h:Tells op n l4 l5 nm) (h1:isOne op [1,23,29]=false) (h2:op≠10) (h3:isOne op [11,12,15,24,13,14]=true):Ev (fun k=>r07_Instr.j2 k (mk acc) op true op id n ty l4 l5 nm at_) (mk (acc++glue (tailL op n l4 l5 nm.data.toList))):=by
  unfold tailL
  rw [h1,h3,if_neg (by decide),if_neg h2,if_pos rfl]
  cases hl:l4 with
  | nil=>exact absurd hl (h.mem h3)
  | cons a l=>
    subst hl
    exact rj_mem op id n ty a l l5 nm at_ acc op ha h.hn h.len4 h.h4
theorem rj1_false (op id n ty:Int) (l4 l5:List Int) (nm:ByteArray) (at_:Int) (acc:List UInt8) (ha:acc.length≤1000) (h:Tells op n l4 l5 nm) (h1:isOne op [1,23,29]=false):Ev (fun k=>r07_Instr.j1 k (mk acc) op false op id n ty l4 l5 nm at_) (mk (acc++glue (tailL op n l4 l5 nm.data.toList))):=by
  by_cases c:op=10
  · subst c
    exact rj_name 10 id n ty l4 l5 nm at_ acc ha h.size
  · refine Ev.step (fun k=>by simp only [r07_Instr.j1];rfl) ?_
    refine ev_neg (by decide) (ev_neg c ?_)
    by_cases g:isOne op [11,12,15,24,13,14]=true
    · have ht:=rj2_true op id n ty l4 l5 nm at_ acc ha h h1 c g
      refine ev_if (fun q=>by rw [beq_iff_eq.mpr q];exact ht) (fun q1=>?_)
      refine ev_if (fun q=>by rw [beq_iff_eq.mpr q];exact ht) (fun q2=>?_)
      refine ev_if (fun q=>by rw [beq_iff_eq.mpr q];exact ht) (fun q3=>?_)
      refine ev_if (fun q=>by rw [beq_iff_eq.mpr q];exact ht) (fun q4=>?_)
      refine ev_if (fun q=>by rw [beq_iff_eq.mpr q];exact ht) (fun q5=>?_)
      have q6:(op==14)=true:=by
        simp [isOne,q1,q2,q3,q4,q5] at g
        simp [g]
      rw [q6]
      exact ht
    · have g:=Bool.eq_false_iff.mpr g
      have hf:=rj2_false op id n ty l4 l5 nm at_ acc ha h h1 c g
      have hh:(((((op=11∨op=12)∨op=15)∨op=24)∨op=13)∨op=14)=False:=by
        simp [isOne] at g
        simp [g]
      have n1:op≠11:=fun q=>by simp [q] at hh
      have n2:op≠12:=fun q=>by simp [q] at hh
      have n3:op≠15:=fun q=>by simp [q] at hh
      have n4:op≠24:=fun q=>by simp [q] at hh
      have n5:op≠13:=fun q=>by simp [q] at hh
      have n6:op≠14:=fun q=>by simp [q] at hh
      refine ev_neg n1 (ev_neg n2 (ev_neg n3 (ev_neg n4 (ev_neg n5 ?_))))
      rw [beq_eq_false_iff_ne.mpr n6]
      exact hf
theorem rj0 (op id n ty:Int) (l4 l5:List Int) (nm:ByteArray) (at_:Int) (acc:List UInt8) (ha:acc.length≤1000) (h:Tells op n l4 l5 nm):Ev (fun k=>r07_Instr.j0 k (mk acc) op id n ty l4 l5 nm at_) (mk (acc++glue (tailL op n l4 l5 nm.data.toList))):=by
  refine Ev.step (fun k=>by simp only [r07_Instr.j0];rfl) ?_
  by_cases g:isOne op [1,23,29]=true
  · have ht:Ev (fun k=>r07_Instr.j1 k (mk acc) op true op id n ty l4 l5 nm at_) (mk (acc++glue (tailL op n l4 l5 nm.data.toList))):=by
      unfold tailL
      rw [if_pos g]
      exact rj_num op id n ty l4 l5 nm at_ acc op ha h.hn
    refine ev_if (fun q=>by rw [beq_iff_eq.mpr q];exact ht) (fun q1=>?_)
    refine ev_if (fun q=>by rw [beq_iff_eq.mpr q];exact ht) (fun q2=>?_)
    have q6:(op==29)=true:=by
      simp [isOne,q1,q2] at g
      simp [g]
    rw [q6]
    exact ht
  · have g:=Bool.eq_false_iff.mpr g
    have hf:=rj1_false op id n ty l4 l5 nm at_ acc ha h g
    have n1:op≠1:=fun q=>by simp [isOne,q] at g
    have n2:op≠23:=fun q=>by simp [isOne,q] at g
    have n3:op≠29:=fun q=>by simp [isOne,q] at g
    refine ev_neg n1 (ev_neg n2 ?_)
    rw [beq_eq_false_iff_ne.mpr n3]
    exact hf
theorem rinstr_ev (op id n ty:Int) (l4 l5:List Int) (nm:ByteArray) (at_:Int) (hid:n64 id) (h:Tells op n l4 l5 nm):Ev (fun k=>r07_Instr.f k op id n ty l4 l5 nm at_) (mk (instrL op id n ty l4 l5 nm.data.toList)):=by
  have hw:=wordL_len op ty
  have hd:=digs_len id hid.1 hid.2
  unfold r07_Instr.f instrL baseL
  refine ev_some (words_c op id n ty l4 l5 nm at_).2 (Ev.bind (Ev.of (r05_Makes.mono op id n ty l4 l5 nm at_) (makes_c op id n ty l4 l5 nm at_).2) ?_)
  refine ev_if (fun c=>?_) (fun c=>?_)
  · rw [if_pos c]
    exact rj0 op id n ty l4 l5 nm at_ _ (by omega) h
  · rw [if_neg c]
    refine Ev.bind (rsmall_ev id hid) (ev_pos (by rw [mk_size];omega) (ev_pos (by rw [L37,mk_append,mk_size];simp;omega) (ev_pos (by rw [L37,L326132,mk_append,mk_append,mk_size,mk_size];simp;omega) ?_)))
    rw [L37,L326132,mk_append,mk_append,mk_append,show [37]++digs id++[32,61,32]++wordL op ty=valL id++[32,61,32]++wordL op ty by simp [valL]]
    exact rj0 op id n ty l4 l5 nm at_ _ (by simp [valL];omega) h
end Go.Proofs.Ytkjdblbgmomieaa.PSh
end
